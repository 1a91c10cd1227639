import PyProof.Rows.All
import Wide.All
import OpenK.AllK
import Wide.FinOn
import Lean
import PySem.Challenge.RW_np0094_01
open PySem PySem.W PyProof.Rows
set_option Elab.async false
namespace Mine
section
set_option maxRecDepth 100000
/-- the i-th statement of the text, the j-th of its body -/
noncomputable def stmtA (i : Nat) : Option Stmt := PySem.Challenge.pw_np0094_01.main.body[i]?
noncomputable def meA (i j : Nat) : Option Stmt := match stmtA i with
  | some (.ClassDef _ _ _ b _ _ _ _ _ _ _) => b[j]?
  | _ => none
/-- the function object that a def makes -/
noncomputable def fnO (st : Option Stmt) (qual : Str) (dV kV doc pm : Value) (an : Option Addr) (cd ct : Value) : Obj := match st with
  | some (.FunctionDef name params body _ _ _ scope _ _ _) => ⟨.type "function", none, .func (fnOf name qual params body scope dV kV doc pm an cd ct), #[]⟩
  | _ => ⟨.none, none, .plain, #[]⟩
noncomputable abbrev hh (P : Params) (x : Str) : Int := PyData.keyHash P x
/-- what of the heap behind the text the walk reads -/
noncomputable def Kf : Params → Frag := fun P =>
  (nat_lit 2, ⟨.none, none, (.dict #[⟨(hh P "type.__subclasses__.Exception.0"), (.str "type.__subclasses__.Exception.0" 223), (.int 38 0)⟩, ⟨(hh P "type.__subclasses__.Exception.n"), (.str "type.__subclasses__.Exception.n" 224), (.int 1 0)⟩] 2), #[]⟩) ::
  (nat_lit 3, ⟨(.type "dict"), none, (.dict #[⟨(hh P "__name__"), (.str "__name__" 165), (.str "law_np0094_01" 1285)⟩, ⟨(hh P "__doc__"), (.str "__doc__" 166), .none⟩, ⟨(hh P "__package__"), (.str "__package__" 167), .none⟩, ⟨(hh P "__loader__"), (.str "__loader__" 168), (.builtin "__main__.__loader__#opaque")⟩, ⟨(hh P "__spec__"), (.str "__spec__" 169), .none⟩, ⟨(hh P "__annotations__"), (.str "__annotations__" 170), (.ref 6)⟩, ⟨(hh P "__builtins__"), (.str "__builtins__" 171), (.ref 4)⟩, ⟨(hh P "__file__"), (.str "__file__" 173), (.str "/claim/cut.py" 172)⟩, ⟨(hh P "__cached__"), (.str "__cached__" 174), .none⟩, ⟨(hh P "_wall"), (.str "_wall" 193), (.ref 21)⟩, ⟨(hh P "LispSignal"), (.str "LispSignal" 226), (.ref 38)⟩, ⟨(hh P "Symbol"), (.str "Symbol" 259), (.ref 58)⟩, ⟨(hh P "NIL"), (.str "NIL" 269), (.ref 64)⟩, ⟨(hh P "T"), (.str "T" 279), (.ref 67)⟩, ⟨(hh P "Cons"), (.str "Cons" 310), (.ref 85)⟩, ⟨(hh P "Opaque"), (.str "Opaque" 352), (.ref 120)⟩, ⟨(hh P "MOST_PARTS"), (.str "MOST_PARTS" 356), (.int 100000 355)⟩, ⟨(hh P "is_keyword"), (.str "is_keyword" 363), (.ref 131)⟩, ⟨(hh P "is_constant"), (.str "is_constant" 370), (.ref 138)⟩, ⟨(hh P "Cells"), (.str "Cells" 480), (.ref 218)⟩, ⟨(hh P "VOID"), (.str "VOID" 483), .none⟩, ⟨(hh P "LOCAL"), (.str "LOCAL" 485), (.int 0 484)⟩, ⟨(hh P "DEFAULT"), (.str "DEFAULT" 487), (.int 1 486)⟩, ⟨(hh P "Variables"), (.str "Variables" 568), (.ref 281)⟩, ⟨(hh P "Locals"), (.str "Locals" 636), (.ref 337)⟩, ⟨(hh P "value_in"), (.str "value_in" 645), (.ref 348)⟩, ⟨(hh P "set_in"), (.str "set_in" 655), (.ref 355)⟩, ⟨(hh P "Bound"), (.str "Bound" 690), (.ref 372)⟩, ⟨(hh P "bind"), (.str "bind" 701), (.ref 383)⟩, ⟨(hh P "bind_variables"), (.str "bind_variables" 702), (.ref 383)⟩, ⟨(hh P "unbind"), (.str "unbind" 710), (.ref 390)⟩, ⟨(hh P "BindingStack"), (.str "BindingStack" 775), (.ref 435)⟩, ⟨(hh P "GapText"), (.str "GapText" 892), (.ref 526)⟩, ⟨(hh P "Markers"), (.str "Markers" 984), (.ref 596)⟩, ⟨(hh P "Buffer"), (.str "Buffer" 1123), (.ref 702)⟩, ⟨(hh P "Obarray"), (.str "Obarray" 1218), (.ref 777)⟩, ⟨(hh P "World"), (.str "World" 1284), (.ref 826)⟩, ⟨(hh P "_law_deck"), (.str "_law_deck" 1292), (.ref 835)⟩, ⟨(hh P "_law_draw"), (.str "_law_draw" 1303), (.ref 842)⟩, ⟨(hh P "_law_place"), (.str "_law_place" 1312), (.ref 849)⟩, ⟨(hh P "_law_all"), (.str "_law_all" 1324), (.ref 856)⟩, ⟨(hh P "_law_rows"), (.str "_law_rows" 1334), (.ref 863)⟩, ⟨(hh P "_law_unbound"), (.str "_law_unbound" 1345), (.ref 870)⟩, ⟨(hh P "law"), (.str "law" 1351), (.ref 875)⟩] 44), #[]⟩) ::
  (nat_lit 34, ⟨(.type "code"), none, (.fields #[(.str "__init__" 208), (.str "LispSignal.__init__" 209), (.str "/claim/cut.py" 210), (.int 7 0), (.int 3 0), (.int 0 0), (.int 0 0), (.int 3 0), (.ref 29), (.bool true), (.int 181 0), (.ref 30), .none, (.ref 31), (.ref 32), (.ref 33), (.int 214 0), (.int 7 0), (.str "/claim/cut.py" 215)]), #[]⟩) ::
  (nat_lit 35, fnO (meA 2 0) "LispSignal.__init__" .none .none .none (.str "emacs.errors" 194) none (.ref 34) .none) ::
  (nat_lit 37, ⟨(.type "dict"), none, (.dict #[⟨(hh P "__module__"), (.str "__module__" 203), (.str "emacs.errors" 194)⟩, ⟨(hh P "__firstlineno__"), (.str "__firstlineno__" 207), (.int 5 206)⟩, ⟨(hh P "__init__"), (.str "__init__" 216), (.ref 35)⟩, ⟨(hh P "__static_attributes__"), (.str "__static_attributes__" 219), (.ref 36)⟩, ⟨(hh P "__weakref__"), (.str "__weakref__" 221), (.ref 39)⟩, ⟨(hh P "__doc__"), (.str "__doc__" 222), .none⟩] 3), #[]⟩) ::
  (nat_lit 38, ⟨(.type "type"), none, (.cls ⟨"LispSignal", [(.type "Exception")], [(.ref 38), (.type "Exception"), (.type "BaseException"), (.type "object")], 37, "LispSignal", true, [], [], false, none, false⟩), #[(some (.ref 22)), none, (some (.str "LispSignal" 196)), (some (.str "LispSignal" 204)), (some (.builtin "Exception.__new__")), (some (.bool true))]⟩) ::
  (nat_lit 54, ⟨(.type "code"), none, (.fields #[(.str "__init__" 241), (.str "Symbol.__init__" 242), (.str "/claim/cut.py" 243), (.int 13 0), (.int 3 0), (.int 0 0), (.int 0 0), (.int 3 0), (.ref 49), (.bool true), (.int 181 0), (.ref 50), .none, (.ref 51), (.ref 52), (.ref 53), (.int 247 0), (.int 13 0), (.str "/claim/cut.py" 248)]), #[]⟩) ::
  (nat_lit 55, fnO (meA 4 0) "Symbol.__init__" .none .none .none (.str "emacs.objects" 227) none (.ref 54) .none) ::
  (nat_lit 57, ⟨(.type "dict"), none, (.dict #[⟨(hh P "__module__"), (.str "__module__" 236), (.str "emacs.objects" 227)⟩, ⟨(hh P "__firstlineno__"), (.str "__firstlineno__" 240), (.int 11 239)⟩, ⟨(hh P "__init__"), (.str "__init__" 249), (.ref 55)⟩, ⟨(hh P "__static_attributes__"), (.str "__static_attributes__" 252), (.ref 56)⟩, ⟨(hh P "__dict__"), (.str "__dict__" 254), (.ref 59)⟩, ⟨(hh P "__weakref__"), (.str "__weakref__" 256), (.ref 60)⟩, ⟨(hh P "__doc__"), (.str "__doc__" 257), .none⟩] 4), #[]⟩) ::
  (nat_lit 58, ⟨(.type "type"), none, (.cls ⟨"Symbol", [(.type "object")], [(.ref 58), (.type "object")], 57, "Symbol", true, [], [], false, none, false⟩), #[none, none, (some (.str "Symbol" 229)), (some (.str "Symbol" 237)), (some (.builtin "object.__new__")), (some (.bool true))]⟩) ::
  (nat_lit 63, ⟨(.type "dict"), none, (.dict #[⟨(hh P "number"), (.str "number" 266), (.int 0 260)⟩, ⟨(hh P "name"), (.str "name" 268), (.str "nil" 261)⟩] 2), #[]⟩) ::
  (nat_lit 64, ⟨(.ref 58), (some 63), .plain, #[]⟩) ::
  (nat_lit 66, ⟨(.type "dict"), none, (.dict #[⟨(hh P "number"), (.str "number" 276), (.int 1 270)⟩, ⟨(hh P "name"), (.str "name" 278), (.str "t" 271)⟩] 2), #[]⟩) ::
  (nat_lit 67, ⟨(.ref 58), (some 66), .plain, #[]⟩) ::
  (nat_lit 81, ⟨(.type "code"), none, (.fields #[(.str "__init__" 292), (.str "Cons.__init__" 293), (.str "/claim/cut.py" 294), (.int 20 0), (.int 3 0), (.int 0 0), (.int 0 0), (.int 3 0), (.ref 76), (.bool true), (.int 181 0), (.ref 77), .none, (.ref 78), (.ref 79), (.ref 80), (.int 298 0), (.int 20 0), (.str "/claim/cut.py" 299)]), #[]⟩) ::
  (nat_lit 82, fnO (meA 7 0) "Cons.__init__" .none .none .none (.str "emacs.objects" 227) none (.ref 81) .none) ::
  (nat_lit 84, ⟨(.type "dict"), none, (.dict #[⟨(hh P "__module__"), (.str "__module__" 287), (.str "emacs.objects" 227)⟩, ⟨(hh P "__firstlineno__"), (.str "__firstlineno__" 291), (.int 18 290)⟩, ⟨(hh P "__init__"), (.str "__init__" 300), (.ref 82)⟩, ⟨(hh P "__static_attributes__"), (.str "__static_attributes__" 303), (.ref 83)⟩, ⟨(hh P "__dict__"), (.str "__dict__" 305), (.ref 86)⟩, ⟨(hh P "__weakref__"), (.str "__weakref__" 307), (.ref 87)⟩, ⟨(hh P "__doc__"), (.str "__doc__" 308), .none⟩] 4), #[]⟩) ::
  (nat_lit 85, ⟨(.type "type"), none, (.cls ⟨"Cons", [(.type "object")], [(.ref 85), (.type "object")], 84, "Cons", true, [], [], false, none, false⟩), #[none, none, (some (.str "Cons" 280)), (some (.str "Cons" 288)), (some (.builtin "object.__new__")), (some (.bool true))]⟩) ::
  (nat_lit 119, ⟨(.type "dict"), none, (.dict #[⟨(hh P "__module__"), (.str "__module__" 318), (.str "emacs.objects" 227)⟩, ⟨(hh P "__firstlineno__"), (.str "__firstlineno__" 322), (.int 23 321)⟩, ⟨(hh P "shown"), (.str "shown" 329), (.ref 103)⟩, ⟨(hh P "kind"), (.str "kind" 336), (.ref 110)⟩, ⟨(hh P "same_as"), (.str "same_as" 344), (.ref 117)⟩, ⟨(hh P "__static_attributes__"), (.str "__static_attributes__" 345), (.ref 118)⟩, ⟨(hh P "__dict__"), (.str "__dict__" 347), (.ref 121)⟩, ⟨(hh P "__weakref__"), (.str "__weakref__" 349), (.ref 122)⟩, ⟨(hh P "__doc__"), (.str "__doc__" 350), .none⟩] 4), #[]⟩) ::
  (nat_lit 120, ⟨(.type "type"), none, (.cls ⟨"Opaque", [(.type "object")], [(.ref 120), (.type "object")], 119, "Opaque", true, [], [(.ref 702)], false, none, false⟩), #[none, none, (some (.str "Opaque" 311)), (some (.str "Opaque" 319)), (some (.builtin "object.__new__")), (some (.bool true))]⟩) ::
  (nat_lit 130, ⟨(.type "code"), none, (.fields #[(.str "is_keyword" 357), (.str "is_keyword" 358), (.str "/claim/cut.py" 359), (.int 35 0), (.int 1 0), (.int 0 0), (.int 0 0), (.int 3 0), (.ref 125), (.bool true), (.int 181 0), (.ref 126), .none, (.ref 127), (.ref 128), (.ref 129), (.int 361 0), (.int 35 0), (.str "/claim/cut.py" 362)]), #[]⟩) ::
  (nat_lit 131, fnO (stmtA 11) "is_keyword" .none .none .none (.str "emacs.cells" 353) none (.ref 130) .none) ::
  (nat_lit 137, ⟨(.type "code"), none, (.fields #[(.str "is_constant" 364), (.str "is_constant" 365), (.str "/claim/cut.py" 366), (.int 37 0), (.int 1 0), (.int 0 0), (.int 0 0), (.int 3 0), (.ref 132), (.bool true), (.int 181 0), (.ref 133), .none, (.ref 134), (.ref 135), (.ref 136), (.int 368 0), (.int 37 0), (.str "/claim/cut.py" 369)]), #[]⟩) ::
  (nat_lit 138, fnO (stmtA 12) "is_constant" .none .none .none (.str "emacs.cells" 353) none (.ref 137) .none) ::
  (nat_lit 151, ⟨(.type "code"), none, (.fields #[(.str "__init__" 383), (.str "Cells.__init__" 384), (.str "/claim/cut.py" 385), (.int 41 0), (.int 1 0), (.int 0 0), (.int 0 0), (.int 3 0), (.ref 146), (.bool true), (.int 181 0), (.ref 147), .none, (.ref 148), (.ref 149), (.ref 150), (.int 387 0), (.int 41 0), (.str "/claim/cut.py" 388)]), #[]⟩) ::
  (nat_lit 152, fnO (meA 13 0) "Cells.__init__" .none .none .none (.str "emacs.cells" 353) none (.ref 151) .none) ::
  (nat_lit 186, ⟨(.type "code"), none, (.fields #[(.str "plist_of" 423), (.str "Cells.plist_of" 424), (.str "/claim/cut.py" 425), (.int 57 0), (.int 2 0), (.int 0 0), (.int 0 0), (.int 3 0), (.ref 181), (.bool true), (.int 181 0), (.ref 182), .none, (.ref 183), (.ref 184), (.ref 185), (.int 428 0), (.int 57 0), (.str "/claim/cut.py" 429)]), #[]⟩) ::
  (nat_lit 187, fnO (meA 13 5) "Cells.plist_of" .none .none .none (.str "emacs.cells" 353) none (.ref 186) .none) ::
  (nat_lit 200, ⟨(.type "code"), none, (.fields #[(.str "place_of" 440), (.str "Cells.place_of" 441), (.str "/claim/cut.py" 442), (.int 63 0), (.int 3 0), (.int 0 0), (.int 0 0), (.int 3 0), (.ref 195), (.bool true), (.int 181 0), (.ref 196), .none, (.ref 197), (.ref 198), (.ref 199), (.int 448 0), (.int 63 0), (.str "/claim/cut.py" 449)]), #[]⟩) ::
  (nat_lit 201, fnO (meA 13 7) "Cells.place_of" .none .none .none (.str "emacs.cells" 353) none (.ref 200) .none) ::
  (nat_lit 207, ⟨(.type "code"), none, (.fields #[(.str "get" 451), (.str "Cells.get" 452), (.str "/claim/cut.py" 453), (.int 75 0), (.int 3 0), (.int 0 0), (.int 0 0), (.int 3 0), (.ref 202), (.bool true), (.int 181 0), (.ref 203), .none, (.ref 204), (.ref 205), (.ref 206), (.int 458 0), (.int 75 0), (.str "/claim/cut.py" 459)]), #[]⟩) ::
  (nat_lit 208, fnO (meA 13 8) "Cells.get" .none .none .none (.str "emacs.cells" 353) none (.ref 207) .none) ::
  (nat_lit 217, ⟨(.type "dict"), none, (.dict #[⟨(hh P "__module__"), (.str "__module__" 378), (.str "emacs.cells" 353)⟩, ⟨(hh P "__firstlineno__"), (.str "__firstlineno__" 382), (.int 39 381)⟩, ⟨(hh P "__init__"), (.str "__init__" 389), (.ref 152)⟩, ⟨(hh P "function_of"), (.str "function_of" 397), (.ref 159)⟩, ⟨(hh P "is_defined"), (.str "is_defined" 405), (.ref 166)⟩, ⟨(hh P "set_function"), (.str "set_function" 414), (.ref 173)⟩, ⟨(hh P "indirect_function"), (.str "indirect_function" 422), (.ref 180)⟩, ⟨(hh P "plist_of"), (.str "plist_of" 430), (.ref 187)⟩, ⟨(hh P "set_plist"), (.str "set_plist" 439), (.ref 194)⟩, ⟨(hh P "place_of"), (.str "place_of" 450), (.ref 201)⟩, ⟨(hh P "get"), (.str "get" 460), (.ref 208)⟩, ⟨(hh P "put"), (.str "put" 470), (.ref 215)⟩, ⟨(hh P "__static_attributes__"), (.str "__static_attributes__" 473), (.ref 216)⟩, ⟨(hh P "__dict__"), (.str "__dict__" 475), (.ref 219)⟩, ⟨(hh P "__weakref__"), (.str "__weakref__" 477), (.ref 220)⟩, ⟨(hh P "__doc__"), (.str "__doc__" 478), .none⟩] 4), #[]⟩) ::
  (nat_lit 218, ⟨(.type "type"), none, (.cls ⟨"Cells", [(.type "object")], [(.ref 218), (.type "object")], 217, "Cells", true, [], [], false, none, false⟩), #[none, none, (some (.str "Cells" 371)), (some (.str "Cells" 379)), (some (.builtin "object.__new__")), (some (.bool true))]⟩) ::
  (nat_lit 235, ⟨(.type "code"), none, (.fields #[(.str "__init__" 500), (.str "Variables.__init__" 501), (.str "/claim/cut.py" 502), (.int 87 0), (.int 1 0), (.int 0 0), (.int 0 0), (.int 3 0), (.ref 230), (.bool true), (.int 181 0), (.ref 231), .none, (.ref 232), (.ref 233), (.ref 234), (.int 504 0), (.int 87 0), (.str "/claim/cut.py" 505)]), #[]⟩) ::
  (nat_lit 236, fnO (meA 18 0) "Variables.__init__" .none .none .none (.str "emacs.variables" 481) none (.ref 235) .none) ::
  (nat_lit 242, ⟨(.type "code"), none, (.fields #[(.str "default_value" 507), (.str "Variables.default_value" 508), (.str "/claim/cut.py" 509), (.int 92 0), (.int 2 0), (.int 0 0), (.int 0 0), (.int 3 0), (.ref 237), (.bool true), (.int 181 0), (.ref 238), .none, (.ref 239), (.ref 240), (.ref 241), (.int 512 0), (.int 92 0), (.str "/claim/cut.py" 513)]), #[]⟩) ::
  (nat_lit 243, fnO (meA 18 1) "Variables.default_value" .none .none .none (.str "emacs.variables" 481) none (.ref 242) .none) ::
  (nat_lit 249, ⟨(.type "code"), none, (.fields #[(.str "set_default" 515), (.str "Variables.set_default" 516), (.str "/claim/cut.py" 517), (.int 95 0), (.int 3 0), (.int 0 0), (.int 0 0), (.int 3 0), (.ref 244), (.bool true), (.int 181 0), (.ref 245), .none, (.ref 246), (.ref 247), (.ref 248), (.int 521 0), (.int 95 0), (.str "/claim/cut.py" 522)]), #[]⟩) ::
  (nat_lit 250, fnO (meA 18 2) "Variables.set_default" .none .none .none (.str "emacs.variables" 481) none (.ref 249) .none) ::
  (nat_lit 270, ⟨(.type "code"), none, (.fields #[(.str "is_automatic" 542), (.str "Variables.is_automatic" 543), (.str "/claim/cut.py" 544), (.int 104 0), (.int 2 0), (.int 0 0), (.int 0 0), (.int 3 0), (.ref 265), (.bool true), (.int 181 0), (.ref 266), .none, (.ref 267), (.ref 268), (.ref 269), (.int 547 0), (.int 104 0), (.str "/claim/cut.py" 548)]), #[]⟩) ::
  (nat_lit 271, fnO (meA 18 5) "Variables.is_automatic" .none .none .none (.str "emacs.variables" 481) none (.ref 270) .none) ::
  (nat_lit 280, ⟨(.type "dict"), none, (.dict #[⟨(hh P "__module__"), (.str "__module__" 495), (.str "emacs.variables" 481)⟩, ⟨(hh P "__firstlineno__"), (.str "__firstlineno__" 499), (.int 85 498)⟩, ⟨(hh P "__init__"), (.str "__init__" 506), (.ref 236)⟩, ⟨(hh P "default_value"), (.str "default_value" 514), (.ref 243)⟩, ⟨(hh P "set_default"), (.str "set_default" 523), (.ref 250)⟩, ⟨(hh P "make_automatic"), (.str "make_automatic" 532), (.ref 257)⟩, ⟨(hh P "make_permanent"), (.str "make_permanent" 541), (.ref 264)⟩, ⟨(hh P "is_automatic"), (.str "is_automatic" 549), (.ref 271)⟩, ⟨(hh P "is_permanent"), (.str "is_permanent" 557), (.ref 278)⟩, ⟨(hh P "__static_attributes__"), (.str "__static_attributes__" 561), (.ref 279)⟩, ⟨(hh P "__dict__"), (.str "__dict__" 563), (.ref 282)⟩, ⟨(hh P "__weakref__"), (.str "__weakref__" 565), (.ref 283)⟩, ⟨(hh P "__doc__"), (.str "__doc__" 566), .none⟩] 4), #[]⟩) ::
  (nat_lit 281, ⟨(.type "type"), none, (.cls ⟨"Variables", [(.type "object")], [(.ref 281), (.type "object")], 280, "Variables", true, [], [], false, none, false⟩), #[none, none, (some (.str "Variables" 488)), (some (.str "Variables" 496)), (some (.builtin "object.__new__")), (some (.bool true))]⟩) ::
  (nat_lit 298, ⟨(.type "code"), none, (.fields #[(.str "__init__" 581), (.str "Locals.__init__" 582), (.str "/claim/cut.py" 583), (.int 111 0), (.int 1 0), (.int 0 0), (.int 0 0), (.int 3 0), (.ref 293), (.bool true), (.int 181 0), (.ref 294), .none, (.ref 295), (.ref 296), (.ref 297), (.int 585 0), (.int 111 0), (.str "/claim/cut.py" 586)]), #[]⟩) ::
  (nat_lit 299, fnO (meA 19 0) "Locals.__init__" .none .none .none (.str "emacs.variables" 481) none (.ref 298) .none) ::
  (nat_lit 305, ⟨(.type "code"), none, (.fields #[(.str "is_local" 588), (.str "Locals.is_local" 589), (.str "/claim/cut.py" 590), (.int 114 0), (.int 2 0), (.int 0 0), (.int 0 0), (.int 3 0), (.ref 300), (.bool true), (.int 181 0), (.ref 301), .none, (.ref 302), (.ref 303), (.ref 304), (.int 593 0), (.int 114 0), (.str "/claim/cut.py" 594)]), #[]⟩) ::
  (nat_lit 306, fnO (meA 19 1) "Locals.is_local" .none .none .none (.str "emacs.variables" 481) none (.ref 305) .none) ::
  (nat_lit 312, ⟨(.type "code"), none, (.fields #[(.str "names" 596), (.str "Locals.names" 597), (.str "/claim/cut.py" 598), (.int 117 0), (.int 1 0), (.int 0 0), (.int 0 0), (.int 3 0), (.ref 307), (.bool true), (.int 181 0), (.ref 308), .none, (.ref 309), (.ref 310), (.ref 311), (.int 600 0), (.int 117 0), (.str "/claim/cut.py" 601)]), #[]⟩) ::
  (nat_lit 313, fnO (meA 19 2) "Locals.names" .none .none .none (.str "emacs.variables" 481) none (.ref 312) .none) ::
  (nat_lit 319, ⟨(.type "code"), none, (.fields #[(.str "make_local" 603), (.str "Locals.make_local" 604), (.str "/claim/cut.py" 605), (.int 120 0), (.int 3 0), (.int 0 0), (.int 0 0), (.int 3 0), (.ref 314), (.bool true), (.int 181 0), (.ref 315), .none, (.ref 316), (.ref 317), (.ref 318), (.int 609 0), (.int 120 0), (.str "/claim/cut.py" 610)]), #[]⟩) ::
  (nat_lit 320, fnO (meA 19 3) "Locals.make_local" .none .none .none (.str "emacs.variables" 481) none (.ref 319) .none) ::
  (nat_lit 326, ⟨(.type "code"), none, (.fields #[(.str "kill" 612), (.str "Locals.kill" 613), (.str "/claim/cut.py" 614), (.int 124 0), (.int 2 0), (.int 0 0), (.int 0 0), (.int 3 0), (.ref 321), (.bool true), (.int 181 0), (.ref 322), .none, (.ref 323), (.ref 324), (.ref 325), (.int 617 0), (.int 124 0), (.str "/claim/cut.py" 618)]), #[]⟩) ::
  (nat_lit 327, fnO (meA 19 4) "Locals.kill" .none .none .none (.str "emacs.variables" 481) none (.ref 326) .none) ::
  (nat_lit 336, ⟨(.type "dict"), none, (.dict #[⟨(hh P "__module__"), (.str "__module__" 576), (.str "emacs.variables" 481)⟩, ⟨(hh P "__firstlineno__"), (.str "__firstlineno__" 580), (.int 109 579)⟩, ⟨(hh P "__init__"), (.str "__init__" 587), (.ref 299)⟩, ⟨(hh P "is_local"), (.str "is_local" 595), (.ref 306)⟩, ⟨(hh P "names"), (.str "names" 602), (.ref 313)⟩, ⟨(hh P "make_local"), (.str "make_local" 611), (.ref 320)⟩, ⟨(hh P "kill"), (.str "kill" 619), (.ref 327)⟩, ⟨(hh P "kill_all"), (.str "kill_all" 627), (.ref 334)⟩, ⟨(hh P "__static_attributes__"), (.str "__static_attributes__" 629), (.ref 335)⟩, ⟨(hh P "__dict__"), (.str "__dict__" 631), (.ref 338)⟩, ⟨(hh P "__weakref__"), (.str "__weakref__" 633), (.ref 339)⟩, ⟨(hh P "__doc__"), (.str "__doc__" 634), .none⟩] 4), #[]⟩) ::
  (nat_lit 337, ⟨(.type "type"), none, (.cls ⟨"Locals", [(.type "object")], [(.ref 337), (.type "object")], 336, "Locals", true, [], [], false, none, false⟩), #[none, none, (some (.str "Locals" 569)), (some (.str "Locals" 577)), (some (.builtin "object.__new__")), (some (.bool true))]⟩) ::
  (nat_lit 347, ⟨(.type "code"), none, (.fields #[(.str "value_in" 637), (.str "value_in" 638), (.str "/claim/cut.py" 639), (.int 130 0), (.int 3 0), (.int 0 0), (.int 0 0), (.int 3 0), (.ref 342), (.bool true), (.int 181 0), (.ref 343), .none, (.ref 344), (.ref 345), (.ref 346), (.int 643 0), (.int 130 0), (.str "/claim/cut.py" 644)]), #[]⟩) ::
  (nat_lit 348, fnO (stmtA 20) "value_in" .none .none .none (.str "emacs.variables" 481) none (.ref 347) .none) ::
  (nat_lit 354, ⟨(.type "code"), none, (.fields #[(.str "set_in" 646), (.str "set_in" 647), (.str "/claim/cut.py" 648), (.int 134 0), (.int 4 0), (.int 0 0), (.int 0 0), (.int 3 0), (.ref 349), (.bool true), (.int 181 0), (.ref 350), .none, (.ref 351), (.ref 352), (.ref 353), (.int 653 0), (.int 134 0), (.str "/claim/cut.py" 654)]), #[]⟩) ::
  (nat_lit 355, fnO (stmtA 21) "set_in" .none .none .none (.str "emacs.variables" 481) none (.ref 354) .none) ::
  (nat_lit 368, ⟨(.type "code"), none, (.fields #[(.str "__init__" 668), (.str "Bound.__init__" 669), (.str "/claim/cut.py" 670), (.int 141 0), (.int 5 0), (.int 0 0), (.int 0 0), (.int 3 0), (.ref 363), (.bool true), (.int 181 0), (.ref 364), .none, (.ref 365), (.ref 366), (.ref 367), (.int 676 0), (.int 141 0), (.str "/claim/cut.py" 677)]), #[]⟩) ::
  (nat_lit 369, fnO (meA 22 0) "Bound.__init__" .none .none .none (.str "emacs.variables" 481) none (.ref 368) .none) ::
  (nat_lit 371, ⟨(.type "dict"), none, (.dict #[⟨(hh P "__module__"), (.str "__module__" 663), (.str "emacs.variables" 481)⟩, ⟨(hh P "__firstlineno__"), (.str "__firstlineno__" 667), (.int 139 666)⟩, ⟨(hh P "__init__"), (.str "__init__" 678), (.ref 369)⟩, ⟨(hh P "__static_attributes__"), (.str "__static_attributes__" 683), (.ref 370)⟩, ⟨(hh P "__dict__"), (.str "__dict__" 685), (.ref 373)⟩, ⟨(hh P "__weakref__"), (.str "__weakref__" 687), (.ref 374)⟩, ⟨(hh P "__doc__"), (.str "__doc__" 688), .none⟩] 4), #[]⟩) ::
  (nat_lit 372, ⟨(.type "type"), none, (.cls ⟨"Bound", [(.type "object")], [(.ref 372), (.type "object")], 371, "Bound", true, [], [], false, none, false⟩), #[none, none, (some (.str "Bound" 656)), (some (.str "Bound" 664)), (some (.builtin "object.__new__")), (some (.bool true))]⟩) ::
  (nat_lit 382, ⟨(.type "code"), none, (.fields #[(.str "bind" 691), (.str "bind" 692), (.str "/claim/cut.py" 693), (.int 146 0), (.int 4 0), (.int 0 0), (.int 0 0), (.int 3 0), (.ref 377), (.bool true), (.int 181 0), (.ref 378), .none, (.ref 379), (.ref 380), (.ref 381), (.int 699 0), (.int 146 0), (.str "/claim/cut.py" 700)]), #[]⟩) ::
  (nat_lit 383, fnO (stmtA 23) "bind" .none .none .none (.str "emacs.variables" 481) none (.ref 382) .none) ::
  (nat_lit 389, ⟨(.type "code"), none, (.fields #[(.str "unbind" 703), (.str "unbind" 704), (.str "/claim/cut.py" 705), (.int 155 0), (.int 2 0), (.int 0 0), (.int 0 0), (.int 3 0), (.ref 384), (.bool true), (.int 181 0), (.ref 385), .none, (.ref 386), (.ref 387), (.ref 388), (.int 708 0), (.int 155 0), (.str "/claim/cut.py" 709)]), #[]⟩) ::
  (nat_lit 390, fnO (stmtA 25) "unbind" .none .none .none (.str "emacs.variables" 481) none (.ref 389) .none) ::
  (nat_lit 403, ⟨(.type "code"), none, (.fields #[(.str "__init__" 725), (.str "BindingStack.__init__" 726), (.str "/claim/cut.py" 727), (.int 163 0), (.int 2 0), (.int 0 0), (.int 0 0), (.int 3 0), (.ref 398), (.bool true), (.int 181 0), (.ref 399), .none, (.ref 400), (.ref 401), (.ref 402), (.int 730 0), (.int 163 0), (.str "/claim/cut.py" 731)]), #[]⟩) ::
  (nat_lit 404, fnO (meA 27 0) "BindingStack.__init__" .none .none .none (.str "emacs.specpdl" 711) none (.ref 403) .none) ::
  (nat_lit 410, ⟨(.type "code"), none, (.fields #[(.str "depth" 733), (.str "BindingStack.depth" 734), (.str "/claim/cut.py" 735), (.int 167 0), (.int 1 0), (.int 0 0), (.int 0 0), (.int 3 0), (.ref 405), (.bool true), (.int 181 0), (.ref 406), .none, (.ref 407), (.ref 408), (.ref 409), (.int 737 0), (.int 167 0), (.str "/claim/cut.py" 738)]), #[]⟩) ::
  (nat_lit 411, fnO (meA 27 1) "BindingStack.depth" .none .none .none (.str "emacs.specpdl" 711) none (.ref 410) .none) ::
  (nat_lit 417, ⟨(.type "code"), none, (.fields #[(.str "bind" 740), (.str "BindingStack.bind" 741), (.str "/claim/cut.py" 742), (.int 170 0), (.int 3 0), (.int 0 0), (.int 0 0), (.int 3 0), (.ref 412), (.bool true), (.int 181 0), (.ref 413), .none, (.ref 414), (.ref 415), (.ref 416), (.int 746 0), (.int 170 0), (.str "/claim/cut.py" 747)]), #[]⟩) ::
  (nat_lit 418, fnO (meA 27 2) "BindingStack.bind" .none .none .none (.str "emacs.specpdl" 711) none (.ref 417) .none) ::
  (nat_lit 431, ⟨(.type "code"), none, (.fields #[(.str "unbind_to" 757), (.str "BindingStack.unbind_to" 758), (.str "/claim/cut.py" 759), (.int 178 0), (.int 2 0), (.int 0 0), (.int 0 0), (.int 3 0), (.ref 426), (.bool true), (.int 181 0), (.ref 427), .none, (.ref 428), (.ref 429), (.ref 430), (.int 763 0), (.int 178 0), (.str "/claim/cut.py" 764)]), #[]⟩) ::
  (nat_lit 432, fnO (meA 27 4) "BindingStack.unbind_to" .none .none .none (.str "emacs.specpdl" 711) none (.ref 431) .none) ::
  (nat_lit 434, ⟨(.type "dict"), none, (.dict #[⟨(hh P "__module__"), (.str "__module__" 720), (.str "emacs.specpdl" 711)⟩, ⟨(hh P "__firstlineno__"), (.str "__firstlineno__" 724), (.int 161 723)⟩, ⟨(hh P "__init__"), (.str "__init__" 732), (.ref 404)⟩, ⟨(hh P "depth"), (.str "depth" 739), (.ref 411)⟩, ⟨(hh P "bind"), (.str "bind" 748), (.ref 418)⟩, ⟨(hh P "note"), (.str "note" 756), (.ref 425)⟩, ⟨(hh P "unbind_to"), (.str "unbind_to" 765), (.ref 432)⟩, ⟨(hh P "__static_attributes__"), (.str "__static_attributes__" 768), (.ref 433)⟩, ⟨(hh P "__dict__"), (.str "__dict__" 770), (.ref 436)⟩, ⟨(hh P "__weakref__"), (.str "__weakref__" 772), (.ref 437)⟩, ⟨(hh P "__doc__"), (.str "__doc__" 773), .none⟩] 4), #[]⟩) ::
  (nat_lit 435, ⟨(.type "type"), none, (.cls ⟨"BindingStack", [(.type "object")], [(.ref 435), (.type "object")], 434, "BindingStack", true, [], [], false, none, false⟩), #[none, none, (some (.str "BindingStack" 713)), (some (.str "BindingStack" 721)), (some (.builtin "object.__new__")), (some (.bool true))]⟩) ::
  (nat_lit 452, ⟨(.type "code"), none, (.fields #[(.str "__init__" 790), (.str "GapText.__init__" 791), (.str "/claim/cut.py" 792), (.int 188 0), (.int 3 0), (.int 0 0), (.int 0 0), (.int 3 0), (.ref 447), (.bool true), (.int 181 0), (.ref 448), .none, (.ref 449), (.ref 450), (.ref 451), (.int 796 0), (.int 188 0), (.str "/claim/cut.py" 797)]), #[]⟩) ::
  (nat_lit 453, fnO (meA 29 0) "GapText.__init__" .none .none .none (.str "emacs.gap" 776) none (.ref 452) .none) ::
  (nat_lit 473, ⟨(.type "code"), none, (.fields #[(.str "codes" 814), (.str "GapText.codes" 815), (.str "/claim/cut.py" 816), (.int 200 0), (.int 3 0), (.int 0 0), (.int 0 0), (.int 3 0), (.ref 468), (.bool true), (.int 181 0), (.ref 469), .none, (.ref 470), (.ref 471), (.ref 472), (.int 821 0), (.int 200 0), (.str "/claim/cut.py" 822)]), #[]⟩) ::
  (nat_lit 474, fnO (meA 29 3) "GapText.codes" .none .none .none (.str "emacs.gap" 776) none (.ref 473) .none) ::
  (nat_lit 525, ⟨(.type "dict"), none, (.dict #[⟨(hh P "__module__"), (.str "__module__" 785), (.str "emacs.gap" 776)⟩, ⟨(hh P "__firstlineno__"), (.str "__firstlineno__" 789), (.int 186 788)⟩, ⟨(hh P "__init__"), (.str "__init__" 798), (.ref 453)⟩, ⟨(hh P "size"), (.str "size" 805), (.ref 460)⟩, ⟨(hh P "code"), (.str "code" 813), (.ref 467)⟩, ⟨(hh P "codes"), (.str "codes" 823), (.ref 474)⟩, ⟨(hh P "move_gap"), (.str "move_gap" 831), (.ref 481)⟩, ⟨(hh P "widen_gap"), (.str "widen_gap" 839), (.ref 488)⟩, ⟨(hh P "insert"), (.str "insert" 848), (.ref 495)⟩, ⟨(hh P "delete"), (.str "delete" 857), (.ref 502)⟩, ⟨(hh P "put"), (.str "put" 866), (.ref 509)⟩, ⟨(hh P "narrow_gap"), (.str "narrow_gap" 873), (.ref 516)⟩, ⟨(hh P "is_whole"), (.str "is_whole" 880), (.ref 523)⟩, ⟨(hh P "__static_attributes__"), (.str "__static_attributes__" 885), (.ref 524)⟩, ⟨(hh P "__dict__"), (.str "__dict__" 887), (.ref 527)⟩, ⟨(hh P "__weakref__"), (.str "__weakref__" 889), (.ref 528)⟩, ⟨(hh P "__doc__"), (.str "__doc__" 890), .none⟩] 4), #[]⟩) ::
  (nat_lit 526, ⟨(.type "type"), none, (.cls ⟨"GapText", [(.type "object")], [(.ref 526), (.type "object")], 525, "GapText", true, [], [], false, none, false⟩), #[none, none, (some (.str "GapText" 778)), (some (.str "GapText" 786)), (some (.builtin "object.__new__")), (some (.bool true))]⟩) ::
  (nat_lit 543, ⟨(.type "code"), none, (.fields #[(.str "__init__" 907), (.str "Markers.__init__" 908), (.str "/claim/cut.py" 909), (.int 231 0), (.int 1 0), (.int 0 0), (.int 0 0), (.int 3 0), (.ref 538), (.bool true), (.int 181 0), (.ref 539), .none, (.ref 540), (.ref 541), (.ref 542), (.int 911 0), (.int 231 0), (.str "/claim/cut.py" 912)]), #[]⟩) ::
  (nat_lit 544, fnO (meA 31 0) "Markers.__init__" .none .none .none (.str "emacs.markers" 893) none (.ref 543) .none) ::
  (nat_lit 550, ⟨(.type "code"), none, (.fields #[(.str "numbers" 914), (.str "Markers.numbers" 915), (.str "/claim/cut.py" 916), (.int 234 0), (.int 1 0), (.int 0 0), (.int 0 0), (.int 3 0), (.ref 545), (.bool true), (.int 181 0), (.ref 546), .none, (.ref 547), (.ref 548), (.ref 549), (.int 918 0), (.int 234 0), (.str "/claim/cut.py" 919)]), #[]⟩) ::
  (nat_lit 551, fnO (meA 31 1) "Markers.numbers" .none .none .none (.str "emacs.markers" 893) none (.ref 550) .none) ::
  (nat_lit 595, ⟨(.type "dict"), none, (.dict #[⟨(hh P "__module__"), (.str "__module__" 902), (.str "emacs.markers" 893)⟩, ⟨(hh P "__firstlineno__"), (.str "__firstlineno__" 906), (.int 229 905)⟩, ⟨(hh P "__init__"), (.str "__init__" 913), (.ref 544)⟩, ⟨(hh P "numbers"), (.str "numbers" 920), (.ref 551)⟩, ⟨(hh P "put"), (.str "put" 929), (.ref 558)⟩, ⟨(hh P "drop"), (.str "drop" 937), (.ref 565)⟩, ⟨(hh P "within"), (.str "within" 946), (.ref 572)⟩, ⟨(hh P "inserted"), (.str "inserted" 956), (.ref 579)⟩, ⟨(hh P "deleted"), (.str "deleted" 965), (.ref 586)⟩, ⟨(hh P "replaced"), (.str "replaced" 975), (.ref 593)⟩, ⟨(hh P "__static_attributes__"), (.str "__static_attributes__" 977), (.ref 594)⟩, ⟨(hh P "__dict__"), (.str "__dict__" 979), (.ref 597)⟩, ⟨(hh P "__weakref__"), (.str "__weakref__" 981), (.ref 598)⟩, ⟨(hh P "__doc__"), (.str "__doc__" 982), .none⟩] 4), #[]⟩) ::
  (nat_lit 596, ⟨(.type "type"), none, (.cls ⟨"Markers", [(.type "object")], [(.ref 596), (.type "object")], 595, "Markers", true, [], [], false, none, false⟩), #[none, none, (some (.str "Markers" 895)), (some (.str "Markers" 903)), (some (.builtin "object.__new__")), (some (.bool true))]⟩) ::
  (nat_lit 608, ⟨(.type "tuple"), none, (.seq #[(.int 8 999)] 0), #[]⟩) ::
  (nat_lit 614, ⟨(.type "code"), none, (.fields #[(.str "__init__" 1000), (.str "Buffer.__init__" 1001), (.str "/claim/cut.py" 1002), (.int 257 0), (.int 4 0), (.int 0 0), (.int 0 0), (.int 3 0), (.ref 609), (.bool true), (.int 181 0), (.ref 610), .none, (.ref 611), (.ref 612), (.ref 613), (.int 1007 0), (.int 257 0), (.str "/claim/cut.py" 1008)]), #[]⟩) ::
  (nat_lit 615, fnO (meA 33 0) "Buffer.__init__" (.ref 608) .none .none (.str "emacs.buffer" 985) none (.ref 614) .none) ::
  (nat_lit 642, ⟨(.type "code"), none, (.fields #[(.str "end" 1031), (.str "Buffer.end" 1032), (.str "/claim/cut.py" 1033), (.int 288 0), (.int 1 0), (.int 0 0), (.int 0 0), (.int 3 0), (.ref 637), (.bool true), (.int 181 0), (.ref 638), .none, (.ref 639), (.ref 640), (.ref 641), (.int 1035 0), (.int 288 0), (.str "/claim/cut.py" 1036)]), #[]⟩) ::
  (nat_lit 643, fnO (meA 33 4) "Buffer.end" .none .none .none (.str "emacs.buffer" 985) none (.ref 642) .none) ::
  (nat_lit 663, ⟨(.type "code"), none, (.fields #[(.str "codes" 1053), (.str "Buffer.codes" 1054), (.str "/claim/cut.py" 1055), (.int 297 0), (.int 3 0), (.int 0 0), (.int 0 0), (.int 3 0), (.ref 658), (.bool true), (.int 181 0), (.ref 659), .none, (.ref 660), (.ref 661), (.ref 662), (.int 1059 0), (.int 297 0), (.str "/claim/cut.py" 1060)]), #[]⟩) ::
  (nat_lit 664, fnO (meA 33 7) "Buffer.codes" .none .none .none (.str "emacs.buffer" 985) none (.ref 663) .none) ::
  (nat_lit 701, ⟨(.type "dict"), none, (.dict #[⟨(hh P "__module__"), (.str "__module__" 994), (.str "emacs.buffer" 985)⟩, ⟨(hh P "__firstlineno__"), (.str "__firstlineno__" 998), (.int 255 997)⟩, ⟨(hh P "__init__"), (.str "__init__" 1009), (.ref 615)⟩, ⟨(hh P "shown"), (.str "shown" 1016), (.ref 622)⟩, ⟨(hh P "kind"), (.str "kind" 1023), (.ref 629)⟩, ⟨(hh P "begin"), (.str "begin" 1030), (.ref 636)⟩, ⟨(hh P "end"), (.str "end" 1037), (.ref 643)⟩, ⟨(hh P "size"), (.str "size" 1044), (.ref 650)⟩, ⟨(hh P "code_at"), (.str "code_at" 1052), (.ref 657)⟩, ⟨(hh P "codes"), (.str "codes" 1061), (.ref 664)⟩, ⟨(hh P "goto"), (.str "goto" 1069), (.ref 671)⟩, ⟨(hh P "tick"), (.str "tick" 1076), (.ref 678)⟩, ⟨(hh P "is_modified"), (.str "is_modified" 1083), (.ref 685)⟩, ⟨(hh P "set_modified"), (.str "set_modified" 1091), (.ref 692)⟩, ⟨(hh P "touch"), (.str "touch" 1099), (.ref 699)⟩, ⟨(hh P "__static_attributes__"), (.str "__static_attributes__" 1120), (.ref 700)⟩, ⟨(hh P "__doc__"), (.str "__doc__" 1121), .none⟩] 2), #[]⟩) ::
  (nat_lit 702, ⟨(.type "type"), none, (.cls ⟨"Buffer", [(.ref 120)], [(.ref 702), (.ref 120), (.type "object")], 701, "Buffer", true, [], [], false, none, false⟩), #[(some (.ref 601)), none, (some (.str "Buffer" 987)), (some (.str "Buffer" 995)), (some (.builtin "object.__new__")), (some (.bool true))]⟩) ::
  (nat_lit 717, ⟨(.type "code"), none, (.fields #[(.str "__init__" 1138), (.str "Obarray.__init__" 1139), (.str "/claim/cut.py" 1140), (.int 317 0), (.int 1 0), (.int 0 0), (.int 0 0), (.int 3 0), (.ref 712), (.bool true), (.int 181 0), (.ref 713), .none, (.ref 714), (.ref 715), (.ref 716), (.int 1142 0), (.int 317 0), (.str "/claim/cut.py" 1143)]), #[]⟩) ::
  (nat_lit 718, fnO (meA 35 0) "Obarray.__init__" .none .none .none (.str "emacs.obarray" 1124) none (.ref 717) .none) ::
  (nat_lit 724, ⟨(.type "code"), none, (.fields #[(.str "intern" 1145), (.str "Obarray.intern" 1146), (.str "/claim/cut.py" 1147), (.int 321 0), (.int 2 0), (.int 0 0), (.int 0 0), (.int 3 0), (.ref 719), (.bool true), (.int 181 0), (.ref 720), .none, (.ref 721), (.ref 722), (.ref 723), (.int 1151 0), (.int 321 0), (.str "/claim/cut.py" 1152)]), #[]⟩) ::
  (nat_lit 725, fnO (meA 35 1) "Obarray.intern" .none .none .none (.str "emacs.obarray" 1124) none (.ref 724) .none) ::
  (nat_lit 738, ⟨(.type "code"), none, (.fields #[(.str "fresh" 1162), (.str "Obarray.fresh" 1163), (.str "/claim/cut.py" 1164), (.int 331 0), (.int 2 0), (.int 0 0), (.int 0 0), (.int 3 0), (.ref 733), (.bool true), (.int 181 0), (.ref 734), .none, (.ref 735), (.ref 736), (.ref 737), (.int 1168 0), (.int 331 0), (.str "/claim/cut.py" 1169)]), #[]⟩) ::
  (nat_lit 739, fnO (meA 35 3) "Obarray.fresh" .none .none .none (.str "emacs.obarray" 1124) none (.ref 738) .none) ::
  (nat_lit 776, ⟨(.type "dict"), none, (.dict #[⟨(hh P "__module__"), (.str "__module__" 1133), (.str "emacs.obarray" 1124)⟩, ⟨(hh P "__firstlineno__"), (.str "__firstlineno__" 1137), (.int 315 1136)⟩, ⟨(hh P "__init__"), (.str "__init__" 1144), (.ref 718)⟩, ⟨(hh P "intern"), (.str "intern" 1153), (.ref 725)⟩, ⟨(hh P "soft"), (.str "soft" 1161), (.ref 732)⟩, ⟨(hh P "fresh"), (.str "fresh" 1170), (.ref 739)⟩, ⟨(hh P "by_number"), (.str "by_number" 1178), (.ref 746)⟩, ⟨(hh P "is_interned"), (.str "is_interned" 1186), (.ref 753)⟩, ⟨(hh P "unintern"), (.str "unintern" 1194), (.ref 760)⟩, ⟨(hh P "all_names"), (.str "all_names" 1201), (.ref 767)⟩, ⟨(hh P "size"), (.str "size" 1208), (.ref 774)⟩, ⟨(hh P "__static_attributes__"), (.str "__static_attributes__" 1211), (.ref 775)⟩, ⟨(hh P "__dict__"), (.str "__dict__" 1213), (.ref 778)⟩, ⟨(hh P "__weakref__"), (.str "__weakref__" 1215), (.ref 779)⟩, ⟨(hh P "__doc__"), (.str "__doc__" 1216), .none⟩] 4), #[]⟩) ::
  (nat_lit 777, ⟨(.type "type"), none, (.cls ⟨"Obarray", [(.type "object")], [(.ref 777), (.type "object")], 776, "Obarray", true, [], [], false, none, false⟩), #[none, none, (some (.str "Obarray" 1126)), (some (.str "Obarray" 1134)), (some (.builtin "object.__new__")), (some (.bool true))]⟩) ::
  (nat_lit 794, ⟨(.type "code"), none, (.fields #[(.str "__init__" 1233), (.str "World.__init__" 1234), (.str "/claim/cut.py" 1235), (.int 353 0), (.int 1 0), (.int 0 0), (.int 0 0), (.int 3 0), (.ref 789), (.bool true), (.int 181 0), (.ref 790), .none, (.ref 791), (.ref 792), (.ref 793), (.int 1237 0), (.int 353 0), (.str "/claim/cut.py" 1238)]), #[]⟩) ::
  (nat_lit 795, fnO (meA 37 0) "World.__init__" .none .none .none (.str "emacs.world" 1219) none (.ref 794) .none) ::
  (nat_lit 801, ⟨(.type "code"), none, (.fields #[(.str "symbol" 1240), (.str "World.symbol" 1241), (.str "/claim/cut.py" 1242), (.int 362 0), (.int 2 0), (.int 0 0), (.int 0 0), (.int 3 0), (.ref 796), (.bool true), (.int 181 0), (.ref 797), .none, (.ref 798), (.ref 799), (.ref 800), (.int 1245 0), (.int 362 0), (.str "/claim/cut.py" 1246)]), #[]⟩) ::
  (nat_lit 802, fnO (meA 37 1) "World.symbol" .none .none .none (.str "emacs.world" 1219) none (.ref 801) .none) ::
  (nat_lit 808, ⟨(.type "code"), none, (.fields #[(.str "own" 1248), (.str "World.own" 1249), (.str "/claim/cut.py" 1250), (.int 365 0), (.int 1 0), (.int 0 0), (.int 0 0), (.int 3 0), (.ref 803), (.bool true), (.int 181 0), (.ref 804), .none, (.ref 805), (.ref 806), (.ref 807), (.int 1252 0), (.int 365 0), (.str "/claim/cut.py" 1253)]), #[]⟩) ::
  (nat_lit 809, fnO (meA 37 2) "World.own" .none .none .none (.str "emacs.world" 1219) none (.ref 808) .none) ::
  (nat_lit 825, ⟨(.type "dict"), none, (.dict #[⟨(hh P "__module__"), (.str "__module__" 1228), (.str "emacs.world" 1219)⟩, ⟨(hh P "__firstlineno__"), (.str "__firstlineno__" 1232), (.int 351 1231)⟩, ⟨(hh P "__init__"), (.str "__init__" 1239), (.ref 795)⟩, ⟨(hh P "symbol"), (.str "symbol" 1247), (.ref 802)⟩, ⟨(hh P "own"), (.str "own" 1254), (.ref 809)⟩, ⟨(hh P "fresh_marker"), (.str "fresh_marker" 1261), (.ref 816)⟩, ⟨(hh P "put_functions"), (.str "put_functions" 1269), (.ref 823)⟩, ⟨(hh P "__static_attributes__"), (.str "__static_attributes__" 1277), (.ref 824)⟩, ⟨(hh P "__dict__"), (.str "__dict__" 1279), (.ref 827)⟩, ⟨(hh P "__weakref__"), (.str "__weakref__" 1281), (.ref 828)⟩, ⟨(hh P "__doc__"), (.str "__doc__" 1282), .none⟩] 4), #[]⟩) ::
  (nat_lit 826, ⟨(.type "type"), none, (.cls ⟨"World", [(.type "object")], [(.ref 826), (.type "object")], 825, "World", true, [], [], false, none, false⟩), #[none, none, (some (.str "World" 1221)), (some (.str "World" 1229)), (some (.builtin "object.__new__")), (some (.bool true))]⟩) ::
  (nat_lit 834, ⟨(.type "code"), none, (.fields #[(.str "_law_deck" 1287), (.str "_law_deck" 1288), (.str "/claim/cut.py" 1289), (.int 376 0), (.int 1 0), (.int 0 0), (.int 0 0), (.int 3 0), (.ref 831), (.bool true), (.int 181 0), (.ref 832), .none, .none, .none, (.ref 833), (.int 1290 0), (.int 376 0), (.str "/claim/cut.py" 1291)]), #[]⟩) ::
  (nat_lit 835, fnO (stmtA 39) "_law_deck" .none .none .none (.str "law_np0094_01" 1285) none (.ref 834) .none) ::
  (nat_lit 841, ⟨(.type "code"), none, (.fields #[(.str "_law_draw" 1293), (.str "_law_draw" 1294), (.str "/claim/cut.py" 1295), (.int 379 0), (.int 2 0), (.int 0 0), (.int 0 0), (.int 3 0), (.ref 836), (.bool true), (.int 181 0), (.ref 837), .none, (.ref 838), (.ref 839), (.ref 840), (.int 1301 0), (.int 379 0), (.str "/claim/cut.py" 1302)]), #[]⟩) ::
  (nat_lit 842, fnO (stmtA 40) "_law_draw" .none .none .none (.str "law_np0094_01" 1285) none (.ref 841) .none) ::
  (nat_lit 848, ⟨(.type "code"), none, (.fields #[(.str "_law_place" 1304), (.str "_law_place" 1305), (.str "/claim/cut.py" 1306), (.int 389 0), (.int 3 0), (.int 0 0), (.int 0 0), (.int 3 0), (.ref 843), (.bool true), (.int 181 0), (.ref 844), .none, (.ref 845), (.ref 846), (.ref 847), (.int 1310 0), (.int 389 0), (.str "/claim/cut.py" 1311)]), #[]⟩) ::
  (nat_lit 849, fnO (stmtA 41) "_law_place" .none .none .none (.str "law_np0094_01" 1285) none (.ref 848) .none) ::
  (nat_lit 855, ⟨(.type "code"), none, (.fields #[(.str "_law_all" 1313), (.str "_law_all" 1314), (.str "/claim/cut.py" 1315), (.int 391 0), (.int 3 0), (.int 0 0), (.int 0 0), (.int 3 0), (.ref 850), (.bool true), (.int 181 0), (.ref 851), .none, (.ref 852), (.ref 853), (.ref 854), (.int 1322 0), (.int 391 0), (.str "/claim/cut.py" 1323)]), #[]⟩) ::
  (nat_lit 856, fnO (stmtA 42) "_law_all" .none .none .none (.str "law_np0094_01" 1285) none (.ref 855) .none) ::
  (nat_lit 862, ⟨(.type "code"), none, (.fields #[(.str "_law_rows" 1325), (.str "_law_rows" 1326), (.str "/claim/cut.py" 1327), (.int 398 0), (.int 1 0), (.int 0 0), (.int 0 0), (.int 3 0), (.ref 857), (.bool true), (.int 181 0), (.ref 858), .none, (.ref 859), (.ref 860), (.ref 861), (.int 1332 0), (.int 398 0), (.str "/claim/cut.py" 1333)]), #[]⟩) ::
  (nat_lit 863, fnO (stmtA 43) "_law_rows" .none .none .none (.str "law_np0094_01" 1285) none (.ref 862) .none) ::
  (nat_lit 869, ⟨(.type "code"), none, (.fields #[(.str "_law_unbound" 1335), (.str "_law_unbound" 1336), (.str "/claim/cut.py" 1337), (.int 405 0), (.int 3 0), (.int 0 0), (.int 0 0), (.int 3 0), (.ref 864), (.bool true), (.int 181 0), (.ref 865), .none, (.ref 866), (.ref 867), (.ref 868), (.int 1343 0), (.int 405 0), (.str "/claim/cut.py" 1344)]), #[]⟩) ::
  (nat_lit 870, fnO (stmtA 44) "_law_unbound" .none .none .none (.str "law_np0094_01" 1285) none (.ref 869) .none) ::
  (nat_lit 874, ⟨(.type "code"), none, (.fields #[(.str "law" 1346), (.str "law" 1347), (.str "/claim/cut.py" 1348), (.int 410 0), (.int 1 0), (.int 0 0), (.int 0 0), (.int 3 0), (.ref 871), (.bool true), (.int 181 0), (.ref 872), .none, .none, .none, (.ref 873), (.int 1349 0), (.int 410 0), (.str "/claim/cut.py" 1350)]), #[]⟩) ::
  (nat_lit 875, fnO (stmtA 45) "law" .none .none .none (.str "law_np0094_01" 1285) none (.ref 874) .none) :: []
noncomputable def kfL : List Addr := [2, 3, 34, 35, 37, 38, 54, 55, 57, 58, 63, 64, 66, 67, 81, 82, 84, 85, 119, 120, 130, 131, 137, 138, 151, 152, 186, 187, 200, 201, 207, 208, 217, 218, 235, 236, 242, 243, 249, 250, 270, 271, 280, 281, 298, 299, 305, 306, 312, 313, 319, 320, 326, 327, 336, 337, 347, 348, 354, 355, 368, 369, 371, 372, 382, 383, 389, 390, 403, 404, 410, 411, 417, 418, 431, 432, 434, 435, 452, 453, 473, 474, 525, 526, 543, 544, 550, 551, 595, 596, 608, 614, 615, 642, 643, 663, 664, 701, 702, 717, 718, 724, 725, 738, 739, 776, 777, 794, 795, 801, 802, 808, 809, 825, 826, 834, 835, 841, 842, 848, 849, 855, 856, 862, 863, 869, 870, 874, 875]
end
section
/-- what comes behind a statement, kept as a name -/
noncomputable def NextOf (M : Model) (A : Around) (rest : List Stmt) (env : Env) (Q : Flow → Shared → Prop) (E : Value → Shared → Prop) (Q' : Flow → Shared → Prop) : Prop := ∀ s', wpAny M A (execs rest env) Q E s' → Q' .next s'
noncomputable def RestOf (Q Q' : Flow → Shared → Prop) : Prop := ∀ f s', f ≠ .next → Q f s' → Q' f s'
section
variable {M : Model} {A : Around} {st : Stmt} {rest : List Stmt} {env : Env} {Q Q' : Flow → Shared → Prop} {E : Value → Shared → Prop} {s s' : Shared} {f : Flow}
theorem execsG (h : ∀ Q', NextOf M A rest env Q E Q' → RestOf Q Q' → wpAny M A (exec st env) Q' E s) : wpAny M A (execs (st :: rest) env) Q E s := by
  refine wpAny_execs_cons (h _ (fun s' x => x) (fun f s' hf x => ?_))
  cases f <;> first | exact x | exact absurd rfl hf
theorem NextOf.go (h : NextOf M A rest env Q E Q') (x : wpAny M A (execs rest env) Q E s') : Q' .next s' := h s' x
theorem RestOf.ret {v : Value} (h : RestOf Q Q') (x : Q (.ret v) s') : Q' (.ret v) s' := h _ s' (fun q => nomatch q) x
theorem RestOf.brk (h : RestOf Q Q') (x : Q .brk s') : Q' .brk s' := h _ s' (fun q => nomatch q) x
theorem RestOf.cont (h : RestOf Q Q') (x : Q .cont s') : Q' .cont s' := h _ s' (fun q => nomatch q) x
end
end
section
noncomputable abbrev Ar (dp un : Nat) (cn : Str) (cs : Scope) (L a : Addr) (ccd : Value) (cl : List (Str × Addr)) (outer : List Env) : Around := ktrTop dp un (some []) cn cs L a ccd cl outer
/-- what stands besides: every new object of the heap but those at fp -/
noncomputable def restOf (h₀ : Heap) (L : Addr) (fp : List Addr) (h : Heap) : List (Addr × Obj) :=
  (List.range h.objs.size).filterMap fun b => if b ∈ fp ∨ b = L ∨ (h₀.get? b).isSome = true then none else (h.get? b).map fun o => (b, o)
theorem mem_restOf {h₀ h : Heap} {L : Addr} {fp : List Addr} {p : Addr × Obj} : p ∈ restOf h₀ L fp h ↔ p.1 ∉ fp ∧ p.1 ≠ L ∧ h₀.get? p.1 = none ∧ h.get? p.1 = some p.2 := by
  unfold restOf
  rw [List.mem_filterMap]
  constructor
  · rintro ⟨b, _, hb⟩
    split at hb
    · cases hb
    · rename_i hn
      obtain ⟨o, ho, rfl⟩ := Option.map_eq_some_iff.mp hb
      simp only [not_or] at hn
      refine ⟨hn.1, hn.2.1, ?_, ho⟩
      cases q : h₀.get? b with
      | none => rfl
      | some x => rw [q] at hn; exact absurd rfl hn.2.2
  · rintro ⟨h1, h2, h3, h4⟩
    refine ⟨p.1, List.mem_range.mpr (Heap.lt_size h4), ?_⟩
    rw [if_neg (by simp [h1, h2, h3]), h4]
    rfl
theorem restOf_news {h₀ h : Heap} {L : Addr} {fp : List Addr} : News h₀ L h (restOf h₀ L fp h) := fun _ hp =>
  let ⟨_, b, c, d⟩ := mem_restOf.mp hp; ⟨d, b, c⟩
theorem restOf_off {h₀ h : Heap} {L : Addr} {fp : List Addr} : ∀ p ∈ restOf h₀ L fp h, p.1 ∉ fp := fun _ hp => (mem_restOf.mp hp).1
/-- all that is new and stands not at fp stays -/
noncomputable def KeepsN (h₀ : Heap) (L : Addr) (fp : List Addr) (h h' : Heap) : Prop := ∀ b o, b ∉ fp → b ≠ L → h₀.get? b = none → h.get? b = some o → h'.get? b = some o
theorem keepsN_of {h₀ h h' : Heap} {L : Addr} {fp : List Addr} (N : News h₀ L h' (restOf h₀ L fp h)) : KeepsN h₀ L fp h h' := fun b o h1 h2 h3 h4 => (N (b, o) (mem_restOf.mpr ⟨h1, h2, h3, h4⟩)).1
theorem News.app {h₀ h : Heap} {L : Addr} {x y : List (Addr × Obj)} (a : News h₀ L h x) (b : News h₀ L h y) : News h₀ L h (x ++ y) := fun p hp => (List.mem_append.mp hp).elim (a p) (b p)
theorem News.cons1 {h₀ h : Heap} {L : Addr} {p : Addr × Obj} {y : List (Addr × Obj)} (a : h.get? p.1 = some p.2 ∧ p.1 ≠ L ∧ h₀.get? p.1 = none) (b : News h₀ L h y) : News h₀ L h (p :: y) := fun q hq => by
  rcases List.mem_cons.mp hq with rfl | hq
  · exact a
  · exact b q hq
theorem News.tail {h₀ h : Heap} {L : Addr} {p : Addr × Obj} {y : List (Addr × Obj)} (a : News h₀ L h (p :: y)) : News h₀ L h y := fun q hq => a q (.tail _ hq)
theorem News.skip2 {h₀ h : Heap} {L : Addr} {p q : Addr × Obj} {y : List (Addr × Obj)} (a : News h₀ L h (p :: q :: y)) : News h₀ L h (p :: y) := fun r hr => a r (by
  rcases List.mem_cons.mp hr with rfl | hr
  · exact .head _
  · exact .tail _ (.tail _ hr))
theorem News.skip3 {h₀ h : Heap} {L : Addr} {p q r : Addr × Obj} {y : List (Addr × Obj)} (a : News h₀ L h (p :: q :: r :: y)) : News h₀ L h (p :: q :: y) := fun x hx => a x (by
  rcases List.mem_cons.mp hx with rfl | hx
  · exact .head _
  · rcases List.mem_cons.mp hx with rfl | hx
    · exact .tail _ (.head _)
    · exact .tail _ (.tail _ (.tail _ hx)))
/-- some of the first, and all from n on -/
noncomputable def pickL (l : List (Addr × Obj)) (is : List Nat) (n : Nat) : List (Addr × Obj) := (is.filterMap fun i => l[i]?) ++ l.drop n
theorem News.pick {h₀ h : Heap} {L : Addr} {l : List (Addr × Obj)} (N : News h₀ L h l) (is : List Nat) (n : Nat) : News h₀ L h (pickL l is n) := fun p hp => by
  rcases List.mem_append.mp hp with hp | hp
  · obtain ⟨i, _, hi⟩ := List.mem_filterMap.mp hp
    exact N p (List.mem_of_getElem? hi)
  · exact N p (List.mem_of_mem_drop hp)
noncomputable def nA0 {h₀ h : Heap} {L : Addr} {a0 : Addr} {o0 : Obj} {r : List (Addr × Obj)} (_ : News h₀ L h ((a0, o0) :: r)) : Addr := a0
noncomputable def nA1 {h₀ h : Heap} {L : Addr} {a0 a1 : Addr} {o0 o1 : Obj} {r : List (Addr × Obj)} (_ : News h₀ L h ((a0, o0) :: (a1, o1) :: r)) : Addr := a1
noncomputable def nA2 {h₀ h : Heap} {L : Addr} {a0 a1 a2 : Addr} {o0 o1 o2 : Obj} {r : List (Addr × Obj)} (_ : News h₀ L h ((a0, o0) :: (a1, o1) :: (a2, o2) :: r)) : Addr := a2
noncomputable def nA3 {h₀ h : Heap} {L : Addr} {a0 a1 a2 a3 : Addr} {o0 o1 o2 o3 : Obj} {r : List (Addr × Obj)} (_ : News h₀ L h ((a0, o0) :: (a1, o1) :: (a2, o2) :: (a3, o3) :: r)) : Addr := a3
noncomputable def nA4 {h₀ h : Heap} {L : Addr} {a0 a1 a2 a3 a4 : Addr} {o0 o1 o2 o3 o4 : Obj} {r : List (Addr × Obj)} (_ : News h₀ L h ((a0, o0) :: (a1, o1) :: (a2, o2) :: (a3, o3) :: (a4, o4) :: r)) : Addr := a4
noncomputable def nA6 {h₀ h : Heap} {L : Addr} {a0 a1 a2 a3 a4 a5 a6 : Addr} {o0 o1 o2 o3 o4 o5 o6 : Obj} {r : List (Addr × Obj)} (_ : News h₀ L h ((a0, o0) :: (a1, o1) :: (a2, o2) :: (a3, o3) :: (a4, o4) :: (a5, o5) :: (a6, o6) :: r)) : Addr := a6
noncomputable def nL {h₀ h : Heap} {L : Addr} {l : List (Addr × Obj)} (_ : News h₀ L h l) : List (Addr × Obj) := l
noncomputable def nA35 {h₀ h : Heap} {L : Addr} {a0 a1 a2 a3 a4 a5 a6 a7 a8 a9 a10 a11 a12 a13 a14 a15 a16 a17 a18 a19 a20 a21 a22 a23 a24 a25 a26 a27 a28 a29 a30 a31 a32 a33 a34 a35 : Addr} {o0 o1 o2 o3 o4 o5 o6 o7 o8 o9 o10 o11 o12 o13 o14 o15 o16 o17 o18 o19 o20 o21 o22 o23 o24 o25 o26 o27 o28 o29 o30 o31 o32 o33 o34 o35 : Obj} {r : List (Addr × Obj)} (_ : News h₀ L h ((a0, o0) :: (a1, o1) :: (a2, o2) :: (a3, o3) :: (a4, o4) :: (a5, o5) :: (a6, o6) :: (a7, o7) :: (a8, o8) :: (a9, o9) :: (a10, o10) :: (a11, o11) :: (a12, o12) :: (a13, o13) :: (a14, o14) :: (a15, o15) :: (a16, o16) :: (a17, o17) :: (a18, o18) :: (a19, o19) :: (a20, o20) :: (a21, o21) :: (a22, o22) :: (a23, o23) :: (a24, o24) :: (a25, o25) :: (a26, o26) :: (a27, o27) :: (a28, o28) :: (a29, o29) :: (a30, o30) :: (a31, o31) :: (a32, o32) :: (a33, o33) :: (a34, o34) :: (a35, o35) :: r)) : Addr := a35
noncomputable def nA36 : Nat := 0
theorem nAs {h₀ h : Heap} {L : Addr} {l nz : List (Addr × Obj)} (N : News h₀ L h l) (e : nz = nL N) : News h₀ L h nz := by rw [e]; exact N
theorem fdiv_lo {a b : Int} (ha : 0 ≤ a) (hb : 0 < b) : 0 ≤ a.fdiv b := by rw [Int.fdiv_eq_ediv_of_nonneg _ (Int.le_of_lt hb)]; exact Int.ediv_nonneg ha (Int.le_of_lt hb)
theorem fdiv_le {a b : Int} (ha : 0 ≤ a) (hb : 0 < b) : a.fdiv b ≤ a := by rw [Int.fdiv_eq_ediv_of_nonneg _ (Int.le_of_lt hb)]; exact Int.ediv_le_self _ ha
section
open PySem.Calls
variable {prog : Program} {w : World} {A : Around} {E : Value → Shared → Prop} {s : Shared} {h₀ : Heap} {L D : Addr} {m : Str → Option Value} {news news' : List (Addr × Obj)} {vs : List Value} {y : Value} {n : Nat} {u : Tok}
theorem pop0 {Q : Value → Shared → Prop} (F : Fr h₀ L s.heap m) (N : News h₀ L s.heap news) (U : Upd D (W.listOf (y :: vs).toArray n) (W.listOf vs.toArray (n + 1)) news news')
    (hz : vs.length + 1 ≤ sizeLine) (h : ∀ h', Fr h₀ L h' m → News h₀ L h' news' → Q y { s with heap := h' }) : wpAny (model prog w) A (call (.builtin "list.pop") [.ref D, .int 0 u]) Q E s :=
  kl_popAt (k := 0) (p := []) (q := vs) F N rfl (by simp [seqIndex?]) rfl U (by simpa using hz) h
theorem popE {p : List Value} {Q : Value → Shared → Prop} (F : Fr h₀ L s.heap m) (N : News h₀ L s.heap news) (U : Upd D (W.listOf (p ++ [y]).toArray n) (W.listOf p.toArray (n + 1)) news news')
    (hz : p.length + 1 ≤ sizeLine) (h : ∀ h', Fr h₀ L h' m → News h₀ L h' news' → Q y { s with heap := h' }) : wpAny (model prog w) A (call (.builtin "list.pop") [.ref D]) Q E s :=
  kl_pop F N (by simpa using kpa_last y p) U (by simpa using hz) h
end
theorem ne_of_off {ex : List (Addr × Obj)} {fp : List Addr} {a : Addr} (h : ∀ p ∈ ex, p.1 ∉ fp) (ha : a ∈ fp) : ∀ p ∈ ex, p.1 ≠ a := fun p hp e => h p hp (e ▸ ha)
section
variable {prog : Program} {w : World} {A : Around} {E : Value → Shared → Prop} {Q : Flow → Shared → Prop} {s : Shared} {env : Env} {h₀ : Heap} {L : Addr}
/-- a while whose turn stores the names of `stored` alone -/
theorem While_st {test : PySem.Expr} {body : List Stmt} {pos : Pos} {m : Str → Option Value} {news : List (Addr × Obj)} (stored : List Str) (J : Nat → List (Addr × Obj) → Prop) {n₀ : Nat}
    (F : Fr h₀ L s.heap m) (N : News h₀ L s.heap news) (hJ : J n₀ news)
    (turn : ∀ (n : Nat) (u : Str → Option Value) (news₁ : List (Addr × Obj)) (h₁ : Heap) (tk₁ : Nat), Fr h₀ L h₁ (fun z => if stored.contains z then u z else m z) → News h₀ L h₁ news₁ → J n news₁ →
      wpAny (model prog w) A (isTrue test env (eval test env)) (fun b s₂ =>
        if b = true then wpAny (model prog w) A (execs body env) (WhileStep h₀ L s (fun n m' nx => (∀ z, stored.contains z = false → m' z = m z) ∧ J n nx) n) E s₂ else Q .next s₂) E { s with heap := h₁, toks := tk₁ })
    (hE : PassesOwn (model prog w) A env E := by first | exact PassesOwn.never | passes_own | with_unfolding_all passes_own) :
    wpAny (model prog w) A (exec (.While test body [] pos) env) Q E s := by
  refine While_inv (fun n m' nx => (∀ z, stored.contains z = false → m' z = m z) ∧ J n nx) F N ⟨fun _ _ => rfl, hJ⟩ ?_ hE
  rintro n m₁ news₁ h₁ tk₁ F₁ N₁ ⟨hm, J₁⟩
  have e : m₁ = fun z => if stored.contains z then m₁ z else m z := by
    funext z
    cases h : stored.contains z with
    | true => simp
    | false => simp only [Bool.false_eq_true, if_false]; exact hm z h
  rw [e] at F₁
  exact turn n m₁ news₁ h₁ tk₁ F₁ N₁ J₁
end
/-- an entry under a written name -/
noncomputable abbrev en (w : World) (n : String) (t : Tok) (v : Value) : DictEntry := ⟨PyData.keyHash w.params (Str.ofString n), Value.str (Str.ofString n) t, v⟩
/-- what a variable holds in a buffer -/
noncomputable def valIn (Dd Dx : List (PyData × PyData)) (k : Int) : PyData := match Spec.lookup (.int k) Dx with
  | some d => d
  | none => (Spec.lookup (.int k) Dd).getD .none
theorem valIn_some {Dd Dx : List (PyData × PyData)} {k : Int} {d : PyData} (h : Spec.lookup (.int k) Dx = some d) : valIn Dd Dx k = d := by unfold valIn; rw [h]
theorem valIn_none {Dd Dx : List (PyData × PyData)} {k : Int} (h : Spec.lookup (.int k) Dx = none) : valIn Dd Dx k = (Spec.lookup (.int k) Dd).getD .none := by unfold valIn; rw [h]
theorem none_of {α : Type} {o : Option α} (h : o.isSome = false) : o = none := by cases o <;> simp_all
section
open PySem.Calls PySem.Spec PyProof.V
variable {prog : Program} {w : World} {A : Around} {E : Value → Shared → Prop} {s : Shared} {K : Type} [DecidableEq K] {knd : KeyKind prog w K} {enc : K → PyData} {D : List (PyData × PyData)} {d : Addr} {key : Value} {k : K}
theorem getItem_some {Q : Value → Shared → Prop} (henc : ∀ a b, PySem.Spec.same (enc a) (enc b) = decide (a = b)) (hkey : knd.is k key = true) (T : TabAt knd enc s.heap d D) (hs : (Spec.lookup (enc k) D).isSome = true)
    (h : ∀ v dv, Spec.lookup (enc k) D = some dv → Flat v dv → Q v { s with toks := s.toks + 1 }) : wpAny (model prog w) A (getItem (.ref d) key) Q E s := by
  obtain ⟨dv, hl⟩ := Option.isSome_iff_exists.mp hs
  exact getItem_tab henc hkey T hl fun v hv => h v dv hl hv
end
theorem flats_len {vs : List Value} {ds : List PyData} (h : KTD.Flats vs ds) : vs.length = ds.length := by
  induction h with
  | nil => rfl
  | cons _ _ ih => simp [ih]
section
open PySem.Calls
variable {prog : Program} {w : World} {A : Around} {E : Value → Shared → Prop} {s : Shared} {h₀ : Heap} {L D : Addr} {m : Str → Option Value} {news news' : List (Addr × Obj)} {vs : List Value} {x : Value} {n : Nat}
theorem appF {Q : Value → Shared → Prop} (F : Fr h₀ L s.heap m) (N : News h₀ L s.heap news) (hz : vs.length ≤ 100) (U : Upd D (W.listOf vs.toArray n) (W.listOf (vs ++ [x]).toArray (n + 1)) news news')
    (h : ∀ h', Fr h₀ L h' m → News h₀ L h' news' → Q .none { s with heap := h' }) : wpAny (model prog w) A (call (.builtin "list.append") [.ref D, x]) Q E s := by
  refine append_K F N (by rw [List.push_toArray]; exact U) h ?_
  rw [List.size_toArray, sizeLine_eq]; omega
end
section
open PySem.Calls PySem.Spec PyProof.V
variable {prog : Program} {w : World} {A : Around} {E : Value → Shared → Prop} {s : Shared} {h₀ : Heap} {L d : Addr} {m : Str → Option Value} {news : List (Addr × Obj)} {g : Obj → List (Addr × Obj)} {vs : List Value} {n : Nat} {o : Obj}
theorem lenL {l : Addr} {Q : Value → Shared → Prop} (N : News h₀ L s.heap news) (hm : (l, W.listOf vs.toArray n) ∈ news) (hz : vs.length ≤ 1000)
    (h : ∀ t tk', Q (.int (vs.length : Int) t) { s with toks := tk' }) : wpAny (model prog w) A (call (.builtin "len") [.ref l]) Q E s := by
  refine len_list (items := vs.toArray) ⟨_, (N _ hm).1, rfl, n, rfl⟩ ?_ ?_
  · rw [List.size_toArray]; exact Int.lt_of_le_of_lt (Int.ofNat_le.mpr hz) (by decide)
  · rw [List.size_toArray]; exact h _ _
theorem lookup_delI (k k' : Int) : ∀ D : List (PyData × PyData), (∀ p ∈ D, ∃ k, p.1 = PyData.int k) → Spec.lookup (.int k') (delD (.int k) D) = if k' = k then none else Spec.lookup (.int k') D
  | [], _ => by simp [delD, Spec.lookup]
  | (x, y) :: r, h => by
    obtain ⟨j, rfl⟩ := h (x, y) (.head _)
    have ih := lookup_delI k k' r fun p hp => h p (.tail _ hp)
    unfold delD at ih ⊢
    rw [List.filter_cons]
    simp only [PyProof.V.same_int, Spec.lookup]
    by_cases e : j = k
    · subst e
      simp only [decide_true, Bool.not_true, Bool.false_eq_true, if_false, ih]
      by_cases e2 : k' = j
      · simp [e2]
      · have e3 : ¬ j = k' := fun q => e2 q.symm
        simp [e2, e3]
    · simp only [decide_eq_false e, Bool.not_false, if_true, Spec.lookup, PyProof.V.same_int, ih]
      by_cases e2 : j = k'
      · subst e2; simp [e]
      · simp [e2]
theorem keysI {kvs : List (Int × Value)} {D : List (PyData × PyData)} (p : FlatPairs PyData.int kvs D) : ∀ q ∈ D, ∃ k, q.1 = PyData.int k := by
  induction p with
  | nil => intro q hq; cases hq
  | cons _ _ ih =>
    intro q hq
    rcases List.mem_cons.mp hq with rfl | hq
    · exact ⟨_, rfl⟩
    · exact ih q hq
/-- d.pop(k), k there -/
theorem popI {kvs : List (Int × Value)} {D : List (PyData × PyData)} {k : Int} {t : Tok} {Q : Value → Shared → Prop} (F : Fr h₀ L s.heap m) (N : News h₀ L s.heap news) (U : UpdF d o news g)
    (hd : o.IsDictOf (intKind prog w) kvs) (hf : FlatPairs PyData.int kvs D) (hl : (Spec.lookup (.int k) D).isSome = true) (hsz : D.length ≤ 1000)
    (h : ∀ h' o' v kvs' D', Fr h₀ L h' m → News h₀ L h' (g o') → o'.IsDictOf (intKind prog w) kvs' → FlatPairs PyData.int kvs' D' → D'.length ≤ D.length → (∀ k', Spec.lookup (.int k') D' = if k' = k then none else Spec.lookup (.int k') D) → Q v { s with heap := h', toks := s.toks + 1 }) :
    wpAny (model prog w) A (call (.builtin "dict.pop") [.ref d, .int k t]) Q E s := by
  obtain ⟨dv, hdv⟩ := Option.isSome_iff_exists.mp hl
  obtain ⟨pre, post, rfl, hg, a, b⟩ := U.split
  refine call_pop_madeIn (k := k) (hsz := by rw [sizeLine_eq]; omega) PyProof.V.same_int (intKind_is _ _ _ _) (.inl rfl) rfl ?ha F N a b hd hf hdv fun h' o' v _ F' N' hd' hf' => h h' o' v _ _ F' (hg o' ▸ N') hd' hf' (List.length_filter_le ..) (fun k' => lookup_delI k k' D (keysI hf))
  case ha => exact PySem.F.args_dict_pop_2 _ _
end
section
open PySem.Calls PySem.Spec PyProof.V
variable {prog : Program} {w : World} {A : Around} {E : Value → Shared → Prop} {s : Shared} {h₀ : Heap} {L d : Addr} {m : Str → Option Value} {news : List (Addr × Obj)} {o : Obj} {kvs : List (Str × Value)}
theorem gets2 {x : Str} {t : Tok} {dflt : Value} {Q : Value → Shared → Prop} (N : News h₀ L s.heap news) (hm : (d, o) ∈ news) (hd : o.IsDictOf (PySem.strKind prog w) kvs) (lo : (d == sysModules) = false) (hno : PySem.valueAt kvs x = none)
    (h : Q dflt { s with toks := s.toks + 1 }) : wpAny (model prog w) A (call (.builtin "dict.get") [.ref d, .str x t, dflt]) Q E s := by
  have hD := kda_dict N hm hd
  exact call_meetsIn PySem.F.slot_dict_get hD.typeIs PySem.F.entry_dict_get (PySem.F.args_dict_get_3 _ _ _) (meets_dict_get_default (PySem.strKind prog w) d (strKind_is prog w x t) lo dflt) ⟨_, hD.mapOf, by rw [hno]; exact h⟩
end
noncomputable def nokey (kvs : List (Str × Value)) (j : Str) : Prop := ∀ p ∈ kvs, p.1 ≠ j
theorem nokey_none {kvs : List (Str × Value)} {j : Str} (h : nokey kvs j) : PySem.valueAt kvs j = none := by
  induction kvs with
  | nil => rfl
  | cons p r ih =>
    have h1 := h p (.head _)
    have h2 := ih fun q hq => h q (.tail _ hq)
    unfold PySem.valueAt at h2 ⊢
    simp [h1] at h2 ⊢
    exact h2
theorem nokey_stored {kvs : List (Str × Value)} {j k : Str} {v : Value} (h : nokey kvs j) (hk : k ≠ j) : nokey (stored kvs k v) j := by
  unfold stored
  split
  · intro p hp
    obtain ⟨q, hq, rfl⟩ := List.mem_map.mp hp
    have := h q hq
    split <;> exact this
  · intro p hp
    rcases List.mem_append.mp hp with hp | hp
    · exact h p hp
    · rw [List.mem_singleton.mp hp]; exact hk
theorem flat_handed {v : Value} {d : PyData} (h : PyProof.V.Flat v d) : handedIn v = true := by cases h {} <;> rfl
theorem flats_snoc {vs : List Value} {ds : List PyData} {v : Value} {d : PyData} (h : KTD.Flats vs ds) (x : PyProof.V.Flat v d) : KTD.Flats (vs ++ [v]) (ds ++ [d]) := by
  induction h with
  | nil => exact .cons x .nil
  | cons y _ ih => exact .cons y ih
end
section
open PySem.Calls
/-- a key that is None or an int -/
noncomputable def isOpt : Option Int → Value → Bool
  | none, .none => true
  | some k, .int i _ => i == k
  | _, _ => false
theorem isOpt_shape {k : Option Int} {v : Value} (h : isOpt k v = true) : (k = none ∧ v = .none) ∨ ∃ i t, k = some i ∧ v = .int i t := by
  cases k with
  | none => cases v <;> simp [isOpt] at h ⊢
  | some i =>
    cases v <;> simp [isOpt] at h ⊢
    rename_i j t
    exact h
section
variable {prog : Program} {w : World} {A : Around} {E : Value → Shared → Prop} {s : Shared}
theorem pyHash_none {Q : Int → Shared → Prop} (h : Q 4238894112 { s with toks := s.toks + 1 }) : wpAny (model prog w) A (pyHash .none) Q E s := by
  have hT : s.TypeIs .none "NoneType" := rfl
  unfold pyHash pyHashByItsType
  have hv : [Value.none].any Value.onHeap = false := rfl
  refine wpAny_bind ?_
  rw [cRoomFor, if_neg (by rw [hv]; exact Bool.false_ne_true)]; refine wpAny_pure ?_
  refine wpAny_bind (wpAny_specialOf hT F.slot_NoneType_hash.lookup ?_)
  show wpAny _ _ (if (some (Value.builtin "NoneType.__hash__") == some Value.none) = true then _ else _) Q E s
  rw [if_neg (by rw [beq_builtin_none]; exact Bool.false_ne_true)]
  refine wpAny_bind (wpAny_specialOf hT F.slot_NoneType_hash.lookup ?_)
  show wpAny _ _ (callSpecialIfBoundUnlessNone? .none "__hash__" _ >>= _) Q E s
  refine wpAny_bind (wpAny_callSpecialIfBoundUnlessNone?_slot hT F.slot_NoneType_hash
    (wpAny_call_entry F.slot_NoneType_hash hT F.entry_NoneType_hash
      (show wpAny _ _ (do ret (← mkInt 0xFCA86420)) _ _ s from wpAny_ret_mkInt ?_) (F.args_NoneType_hash_1 _)))
  show wpAny _ _ (if (decide (-(2 : Int) ^ 63 ≤ 0xFCA86420) && decide ((0xFCA86420 : Int) < 2 ^ 63)) = true then _ else _) Q E _
  rw [if_pos (by decide)]
  exact wpAny_pure h
theorem eqBool_none_none {Q : Bool → Shared → Prop} (h : Q true s) : wpAny (model prog w) A (eqBool .none .none) Q E s := by
  unfold eqBool
  refine wpAny_holding ?_
  show wpAny _ _ (if (Value.none == Value.none) = true then _ else _) Q E s
  rw [if_pos (by decide)]
  exact wpAny_bind (wpAny_rule (wpAny_pure h))
theorem eqBool_none_int {i : Int} {t : Tok} {Q : Bool → Shared → Prop} (h : Q false s) : wpAny (model prog w) A (eqBool .none (.int i t)) Q E s := by
  unfold eqBool
  refine wpAny_holding ?_
  show wpAny _ _ (if (Value.none == Value.int i t) = true then _ else _) Q E s
  rw [if_neg (by intro q; cases eq_of_beq q)]
  refine wpAny_bind ?_
  have z := EqNone.eq_none_int (prog := prog) (w := w) (A := A) (E := E) (s := s) (a := i) (t := t) (Q := fun v s' => wpAny (model prog w) A (truthOfDropped v) Q E s') (wpAny_truthy_bool h)
  exact z
theorem eqBool_int_none {i : Int} {t : Tok} {Q : Bool → Shared → Prop} (h : Q false s) : wpAny (model prog w) A (eqBool (.int i t) .none) Q E s := by
  unfold eqBool
  refine wpAny_holding ?_
  show wpAny _ _ (if (Value.int i t == Value.none) = true then _ else _) Q E s
  rw [if_neg (by intro q; cases eq_of_beq q)]
  refine wpAny_bind ?_
  have z := EqNone.eq_int_none (prog := prog) (w := w) (A := A) (E := E) (s := s) (a := i) (t := t) (Q := fun v s' => wpAny (model prog w) A (truthOfDropped v) Q E s') (wpAny_truthy_bool h)
  exact z
end
noncomputable def optHash : Option Int → Int
  | none => 4238894112
  | some i => hashInt i
noncomputable def optKind (prog : Program) (w : World) : KeyKind prog w (Option Int) where
  is := isOpt
  hash := optHash
  inj := fun v a b ha hb => by
    rcases isOpt_shape ha with ⟨rfl, rfl⟩ | ⟨i, t, rfl, rfl⟩ <;> rcases isOpt_shape hb with ⟨rfl, e⟩ | ⟨j, u, rfl, e⟩
    · rfl
    · cases e
    · cases e
    · injection e with e1 _; rw [e1]
  byValue := fun k v h => by
    rcases isOpt_shape h with ⟨rfl, rfl⟩ | ⟨i, t, rfl, rfl⟩ <;> rfl
  pyHash := fun hv h => by
    rcases isOpt_shape hv with ⟨rfl, rfl⟩ | ⟨i, t, rfl, rfl⟩
    · exact pyHash_none h
    · exact wpAny_pyHash_int h
  eqBool := fun hu hv h => by
    rcases isOpt_shape hu with ⟨rfl, rfl⟩ | ⟨i, t, rfl, rfl⟩ <;> rcases isOpt_shape hv with ⟨rfl, rfl⟩ | ⟨j, u, rfl, rfl⟩
    · exact eqBool_none_none (by simpa using h)
    · exact eqBool_none_int (by simpa using h)
    · exact eqBool_int_none (by simpa using h)
    · refine wpAny_eqBool_int ?_
      have e : (i == j) = decide (some i = some j) := by
        by_cases q : i = j
        · subst q; simp
        · simp [q]
      rw [e]; exact h
  «strs» := fun k x t v h => by
    rcases isOpt_shape h with ⟨_, e⟩ | ⟨_, _, _, e⟩ <;> cases e
noncomputable def encO : Option Int → PyData
  | none => .none
  | some i => .int i
theorem same_encO (a b : Option Int) : PySem.Spec.same (encO a) (encO b) = decide (a = b) := by
  cases a <;> cases b <;> simp [encO, PySem.Spec.same]
  rename_i x y
  by_cases q : x = y
  · subst q; simp
  · simp [q]
theorem keyEnc_O : PyProof.V.KeyEnc encO := ⟨same_encO, fun a n k e hne => by
  cases n <;> cases k <;> cases a <;> simp [encO, PySem.Spec.same] at e hne ⊢
  omega⟩
end
section
open PySem.Calls PySem.Spec PyProof.V
theorem erase_filter {α β : Type} [DecidableEq α] (k : α) : ∀ (xs : List (α × β)) (j : Nat) (p : β), (xs.map (·.1)).Nodup → xs[j]? = some (k, p) → xs.eraseIdx j = xs.filter fun x => decide (x.1 ≠ k)
  | [], j, p, _, h => by simp at h
  | x :: xs, 0, p, hn, h => by
    simp only [List.getElem?_cons_zero, Option.some.injEq] at h
    subst h
    rw [List.map_cons, List.nodup_cons] at hn
    rw [List.eraseIdx_cons_zero, List.filter_cons_of_neg (by simp)]
    symm
    rw [List.filter_eq_self]
    intro y hy
    exact decide_eq_true fun e => hn.1 (List.mem_map.mpr ⟨y, hy, e⟩)
  | x :: xs, j + 1, p, hn, h => by
    simp only [List.getElem?_cons_succ] at h
    rw [List.map_cons, List.nodup_cons] at hn
    have hne : x.1 ≠ k := fun e => hn.1 (List.mem_map.mpr ⟨(k, p), List.mem_of_getElem? h, e.symm⟩)
    rw [List.eraseIdx_cons_succ, erase_filter k xs j p hn.2 h, List.filter_cons_of_pos (by simpa using hne)]
/-- a dict whose keys are tuples that P bears -/
noncomputable def RowsO (prog : Program) (w : World) (P : Addr × Obj → Prop) (o : Obj) (D : List (PyData × PyData)) : Prop :=
  ∃ es ep xs, o.ExactDict ∧ o.data = .dict es ep ∧ es.toList = xs.map (entryOfKey (tupleKind (optKind prog w))) ∧ (xs.map (·.1)).Nodup ∧
    (∀ x ∈ xs, ∃ ok, P (x.2.1, ok) ∧ TupKeyObj (optKind prog w) x.1 ok) ∧ FlatPairs (encTuple encO) (kvsOf xs) D
section
variable {prog : Program} {w : World} {A : Around} {E : Value → Shared → Prop} {s : Shared} {h₀ : Heap} {L d a : Addr} {m : Str → Option Value} {news : List (Addr × Obj)} {D : List (PyData × PyData)} {ks : List (Option Int)} {o ok : Obj}
  {P P' : Addr × Obj → Prop} {u : Obj → List (Addr × Obj)}
theorem RowsO.mono (h : RowsO prog w P o D) (k : ∀ p, P p → P' p) : RowsO prog w P' o D :=
  let ⟨es, ep, xs, h1, h2, h3, h4, h5, h6⟩ := h
  ⟨es, ep, xs, h1, h2, h3, h4, fun x hx => let ⟨ok, a, b⟩ := h5 x hx; ⟨ok, k _ a, b⟩, h6⟩
theorem RowsO.nil (hd : o.IsDictOf (intKind prog w) []) : RowsO prog w P o [] := by
  obtain ⟨es, ep, hc, hdat, _, hp, _⟩ := hd
  have he : es.toList = [] := List.length_eq_zero_iff.mp hp.length
  exact ⟨es, ep, [], hc, hdat, by rw [he]; rfl, List.nodup_nil, fun _ hx => by simp at hx, .nil⟩
theorem RowsO.tab (h : RowsO prog w P o D) (hP : ∀ p, P p → p ∈ news) (hm : (d, o) ∈ news) (lo : (d == sysModules) = false) : TupTab (optKind prog w) encO news d D :=
  let ⟨es, ep, xs, h1, h2, h3, h4, h5, h6⟩ := h
  ⟨lo, o, es, ep, xs, hm, h1, h2, h3, h4, fun x hx => let ⟨ok, a, b⟩ := h5 x hx; ⟨ok, hP _ a, b⟩, h6⟩
theorem rows_in {Q : Value → Shared → Prop} (hu : A.units + 1 < cLine) (N : News h₀ L s.heap news) (hr : RowsO prog w P o D) (hP : ∀ p, P p → p ∈ news) (hm : (d, o) ∈ news) (lo : (d == sysModules) = false) (hka : (a, ok) ∈ news) (tk : TupKeyObj (optKind prog w) ks ok)
    (h : Q (.bool (Spec.lookup (encTuple encO ks) D).isSome) { s with toks := s.toks + (ks.length + 1) }) : wpAny (model prog w) A (compareOp .In (.ref a) (.ref d)) Q E s :=
  in_tupTab same_encO hu N (hr.tab hP hm lo) hka tk h
theorem rows_notin {Q : Value → Shared → Prop} (hu : A.units + 1 < cLine) (N : News h₀ L s.heap news) (hr : RowsO prog w P o D) (hP : ∀ p, P p → p ∈ news) (hm : (d, o) ∈ news) (lo : (d == sysModules) = false) (hka : (a, ok) ∈ news) (tk : TupKeyObj (optKind prog w) ks ok)
    (h : Q (.bool (!(Spec.lookup (encTuple encO ks) D).isSome)) { s with toks := s.toks + (ks.length + 1) }) : wpAny (model prog w) A (compareOp .NotIn (.ref a) (.ref d)) Q E s :=
  notin_tupTab same_encO hu N (hr.tab hP hm lo) hka tk h
theorem rows_item {value slice : PySem.Expr} {dv : PyData} {Q : Value → Shared → Prop} (hu : A.units + 1 < cLine) (N : News h₀ L s.heap news) (hr : RowsO prog w P o D) (hP : ∀ p, P p → p ∈ news) (hm : (d, o) ∈ news) (lo : (d == sysModules) = false) (hka : (a, ok) ∈ news) (tk : TupKeyObj (optKind prog w) ks ok)
    (hl : Spec.lookup (encTuple encO ks) D = some dv) (h : ∀ v, Flat v dv → Q v { s with toks := s.toks + (ks.length + 1) })
    (hs : subscripted slice false (.ref d) (.ref a) = operate [.ref d, .ref a] (getItem (.ref d) (.ref a)) := by with_unfolding_all rfl) (hg : ∀ r, letTemporaryGo value (.ref d) r = pure () := by intro _; with_unfolding_all rfl) :
    wpAny (model prog w) A (subscriptTail value slice (.ref d) (.ref a)) Q E s :=
  item_tupTab same_encO hu N (hr.tab hP hm lo) hka tk hl h hs hg
theorem rows_itemS {value slice : PySem.Expr} {Q : Value → Shared → Prop} (hu : A.units + 1 < cLine) (N : News h₀ L s.heap news) (hr : RowsO prog w P o D) (hP : ∀ p, P p → p ∈ news) (hm : (d, o) ∈ news) (lo : (d == sysModules) = false) (hka : (a, ok) ∈ news) (tk : TupKeyObj (optKind prog w) ks ok)
    (hl : (Spec.lookup (encTuple encO ks) D).isSome = true) (h : ∀ v dv, Spec.lookup (encTuple encO ks) D = some dv → Flat v dv → Q v { s with toks := s.toks + (ks.length + 1) })
    (hs : subscripted slice false (.ref d) (.ref a) = operate [.ref d, .ref a] (getItem (.ref d) (.ref a)) := by with_unfolding_all rfl) (hg : ∀ r, letTemporaryGo value (.ref d) r = pure () := by intro _; with_unfolding_all rfl) :
    wpAny (model prog w) A (subscriptTail value slice (.ref d) (.ref a)) Q E s := by
  obtain ⟨dv, hd⟩ := Option.isSome_iff_exists.mp hl
  exact item_tupTab same_encO hu N (hr.tab hP hm lo) hka tk hd (fun v hv => h v dv hd hv) hs hg
theorem rows_get {Q : Value → Shared → Prop} (hu : A.units + 1 < cLine) (N : News h₀ L s.heap news) (hr : RowsO prog w P o D) (hP : ∀ p, P p → p ∈ news) (hm : (d, o) ∈ news) (lo : (d == sysModules) = false) (hka : (a, ok) ∈ news) (tk : TupKeyObj (optKind prog w) ks ok)
    (h : ∀ v, Flat v ((Spec.lookup (encTuple encO ks) D).getD .none) → Q v { s with toks := s.toks + (ks.length + 1) }) : wpAny (model prog w) A (call (.builtin "dict.get") [.ref d, .ref a]) Q E s :=
  call_get1_tupTab same_encO hu N (hr.tab hP hm lo) hka tk h
theorem rows_meth {name : Str} {id : String} {pl : Sem Bool} {Q : Value × List Value → Shared → Prop} (slot : Slot "dict" name id) (hty : typeOf (.builtin id) = pure (.type "method_descriptor")) (N : News h₀ L s.heap news) (hr : RowsO prog w P o D) (hP : ∀ p, P p → p ∈ news) (hm : (d, o) ∈ news) (lo : (d == sysModules) = false)
    (h : Q (.builtin id, [.ref d]) s) : wpAny (model prog w) A (getMethod (.ref d) name pl) Q E s := getMethod_tabH slot hty ((hr.tab hP hm lo).at N) h
theorem rows_ne (N : News h₀ L s.heap news) (hr : RowsO prog w P o D) (hm : (d, o) ∈ news) {b : Addr} {ob : Obj} {ks' : List (Option Int)} (hb : (b, ob) ∈ news) (t : TupKeyObj (optKind prog w) ks' ob) : b ≠ d := by
  intro e
  subst e
  obtain ⟨es, ep, xs, hc, _⟩ := hr
  obtain rfl : ob = o := Option.some.inj ((N.get hb).symm.trans (N.get hm))
  have h1 := t.1
  rw [hc.1] at h1
  injection h1 with h2
  exact absurd h2 (by decide)
theorem news_upF {h' : Heap} {o' : Obj} (N : News h₀ L s.heap news) (U : UpdF d o news u) (hs : Heap.SameBut d s.heap h') (ho' : h'.get? d = some o') : News h₀ L h' (u o') := by
  obtain ⟨pre, post, rfl, hu, h1, h2⟩ := U.split
  rw [hu]
  have D := N (d, o) (by simp)
  intro p hp
  rcases List.mem_append.mp hp with q | q
  · have P := N p (List.mem_append_left _ q); exact ⟨(hs.2 _ (h1 p q)).trans P.1, P.2⟩
  · rcases List.mem_cons.mp q with rfl | q
    · exact ⟨ho', D.2⟩
    · have P := N p (List.mem_append_right _ (.tail _ q)); exact ⟨(hs.2 _ (h2 p q)).trans P.1, P.2⟩
theorem upF_mem (U : UpdF d o news u) : (d, o) ∈ news := by
  obtain ⟨pre, post, rfl, _⟩ := U.split
  simp
theorem rows_set {v : Value} {dv : PyData} {Q : Unit → Shared → Prop} (hu : A.units + 1 < cLine) (hv : Flat v dv) (F : Fr h₀ L s.heap m) (N : News h₀ L s.heap news) (U : UpdF d o news u) (hr : RowsO prog w P o D) (hP : ∀ p, P p → p ∈ news)
    (hka : (a, ok) ∈ news) (tk : TupKeyObj (optKind prog w) ks ok) (hsz : D.length ≤ sizeLine)
    (h : ∀ h' o', Fr h₀ L h' m → News h₀ L h' (u o') → RowsO prog w (fun p => P p ∨ p = (a, ok)) o' (putD (encTuple encO ks) dv D) → Q () { s with heap := h', toks := s.toks + (ks.length + 1) }) :
    wpAny (model prog w) A (setItem (.ref d) (.ref a) v) Q E s := by
  have hm := upF_mem U
  have hne : ∀ {b : Addr} {ob : Obj} {ks' : List (Option Int)}, (b, ob) ∈ news → TupKeyObj (optKind prog w) ks' ob → b ≠ d := fun hb t => rows_ne N hr hm hb t
  obtain ⟨es, ep, xs, hc, hd, he, hn, hk, hf⟩ := hr
  have hD : s.heap.DictOfH (tupleKind (optKind prog w)) d xs := ⟨o, es, ep, N.get hm, hc, hd, he, fun x hx => let ⟨_, hmk, t⟩ := hk x hx; t.key (N.get (hP _ hmk)), hn⟩
  have hxs : xs.length ≤ sizeLine := by have e := hf.length; simp only [kvsOf, List.length_map] at e; omega
  refine wpAny_setItem_heap (hsz := hxs) (knd := tupleKind (optKind prog w)) (tupleKind_room_in1 hu) (tk.key (N.get hka)) hD fun h' hm' hs => ?_
  obtain ⟨o', es', ep', ho', hc', hd', he', _, hn'⟩ := hm'
  refine h h' o' (F.change hs (N _ hm).2.1 (N.fresh hm)) (news_upF N U hs ho') ⟨es', ep', storedH xs ks a v, hc', hd', he', hn', fun x hx => ?_, by rw [kvsOf_storedH]; exact hf.stored (same_encTuple same_encO) ks hv⟩
  rcases mem_storedH hx with ⟨y, hy, e1, e2⟩ | ⟨e1, e2⟩
  · obtain ⟨oky, hmk, t⟩ := hk y hy
    exact ⟨oky, .inl (by rw [e2]; exact hmk), by rw [e1]; exact t⟩
  · exact ⟨ok, .inr (by rw [e2]), by rw [e1]; exact tk⟩
theorem takeOutH {xs : List (List (Option Int) × Addr × Value)} {Q : Option DictEntry → Shared → Prop} (hu : A.units < cLine) (hkey : IsTupleKey (optKind prog w) s.heap ks a) (hm : s.heap.DictOfH (tupleKind (optKind prog w)) d xs)
    (hnone : atKey xs ks = none → Q none { s with toks := s.toks + (ks.length + 1) })
    (hsome : ∀ e p, atKey xs ks = some p → e.val = p.2 → ∀ h' o', h'.get? d = some o' → (∃ es' ep', o'.ExactDict ∧ o'.data = .dict es' ep' ∧ es'.toList = (xs.filter fun x => decide (x.1 ≠ ks)).map (entryOfKey (tupleKind (optKind prog w)))) → Heap.SameBut d s.heap h' → Q (some e) { s with heap := h', toks := s.toks + (ks.length + 1) })
    (hsz : xs.length ≤ sizeLine) : wpAny (model prog w) A (Builtin.Dict.takeOut d (.ref a)) Q E s := by
  obtain ⟨o, es, ep, ho, hc, hd, he, his, hn⟩ := hm
  unfold Builtin.Dict.takeOut
  refine wpAny_holding ?_
  refine wpAny_bind ((tupleKind (optKind prog w)).pyHash hu hkey (wpAny_bind (wpAny_dictFind_heap (s := { s with toks := s.toks + (ks.length + 1) }) hu hkey ho hd he his hn ?_ ?_)))
  · intro hno
    exact wpAny_pure (hnone (atKey_none_of_get hno))
  · intro j p hj
    refine wpAny_bind (wpAny_dictEntries (s := { s with toks := s.toks + (ks.length + 1) }) ho hd ?_)
    rw [entry_at he j, hj]
    refine wpAny_bind (wpAny_updateDictKeys (hz := by have e := size_of_entries he; omega) (s := { s with toks := s.toks + (ks.length + 1) }) ho hd (wpAny_pure (hsome _ p (atKey_of_get hn hj) rfl _ _ (Heap.get?_update_self _ ho (Obj.isFreed_of_dict (Obj.data_mapDictKeys hd _))) ⟨_, _, hc.mapDictKeys _, Obj.data_mapDictKeys hd _, ?_⟩ (Heap.SameBut.update ..))) ?_)
    · rw [← erase_filter ks xs j p hn hj]
      obtain ⟨l⟩ := es
      have he' : l = xs.map (entryOfKey (tupleKind (optKind prog w))) := he
      subst he'
      simp only [List.eraseIdxIfInBounds_toArray]
      rw [List.eraseIdx_eq_take_drop_succ, List.eraseIdx_eq_take_drop_succ, List.map_append, List.map_take, List.map_drop]
    · obtain ⟨l⟩ := es
      simp only [List.eraseIdxIfInBounds_toArray, List.size_toArray]
      exact Nat.le_succ_of_le (List.length_eraseIdx_le ..)
theorem lookup_del (ks' : List (Option Int)) : ∀ D : List (PyData × PyData), (∀ p ∈ D, ∃ k, p.1 = encTuple encO k) → Spec.lookup (encTuple encO ks') (delD (encTuple encO ks) D) = if ks' = ks then none else Spec.lookup (encTuple encO ks') D
  | [], _ => by simp [delD, Spec.lookup]
  | (x, y) :: r, h => by
    obtain ⟨k, rfl⟩ := h (x, y) (.head _)
    have ih := lookup_del ks' r fun p hp => h p (.tail _ hp)
    unfold delD at ih ⊢
    rw [List.filter_cons]
    simp only [same_encTuple same_encO, Spec.lookup]
    by_cases e : k = ks
    · subst e
      simp only [decide_true, Bool.not_true, Bool.false_eq_true, if_false, ih]
      by_cases e2 : ks' = k
      · simp [e2]
      · have e3 : ¬ k = ks' := fun q => e2 q.symm
        simp [e2, e3]
    · simp only [decide_eq_false e, Bool.not_false, if_true, Spec.lookup, same_encTuple same_encO, ih]
      by_cases e2 : k = ks'
      · subst e2; simp [e]
      · simp [e2]
theorem keysOf {kvs : List (List (Option Int) × Value)} (p : FlatPairs (encTuple encO) kvs D) : ∀ q ∈ D, ∃ k, q.1 = encTuple encO k := by
  induction p with
  | nil => intro q hq; cases hq
  | cons _ _ ih =>
    intro q hq
    rcases List.mem_cons.mp hq with rfl | hq
    · exact ⟨_, rfl⟩
    · exact ih q hq
theorem rows_pop {Q : Value → Shared → Prop} (hu : A.units + 1 < cLine) (F : Fr h₀ L s.heap m) (N : News h₀ L s.heap news) (U : UpdF d o news u) (hr : RowsO prog w P o D) (hP : ∀ p, P p → p ∈ news) (lo : (d == sysModules) = false)
    (hka : (a, ok) ∈ news) (tk : TupKeyObj (optKind prog w) ks ok) (hsz : D.length ≤ sizeLine)
    (h : ∀ v tk' h' o' D', Fr h₀ L h' m → News h₀ L h' (u o') → RowsO prog w P o' D' → D'.length ≤ D.length → (∀ ks', Spec.lookup (encTuple encO ks') D' = if ks' = ks then none else Spec.lookup (encTuple encO ks') D) → Q v { s with heap := h', toks := tk' }) :
    wpAny (model prog w) A (call (.builtin "dict.pop") [.ref d, .ref a, .none]) Q E s := by
  have hm := upF_mem U
  have hsame : News h₀ L s.heap (u o) := by
    obtain ⟨pre, post, rfl, hu, _, _⟩ := U.split
    rw [hu]; exact N
  have hr' := hr
  obtain ⟨es, ep, xs, hc, hd, he, hn, hk, hf⟩ := hr
  have hxs : xs.length ≤ sizeLine := by have e := hf.length; simp only [kvsOf, List.length_map] at e; omega
  have hD : s.heap.DictOfH (tupleKind (optKind prog w)) d xs := ⟨o, es, ep, N.get hm, hc, hd, he, fun x hx => let ⟨_, hmk, t⟩ := hk x hx; t.key (N.get (hP _ hmk)), hn⟩
  have gone : atKey xs ks = none → ∀ ks', Spec.lookup (encTuple encO ks') D = if ks' = ks then none else Spec.lookup (encTuple encO ks') D := by
    intro hno ks'
    by_cases e : ks' = ks
    · subst e
      rw [if_pos rfl]
      refine hf.absent (same_encTuple same_encO) ?_
      rw [valueAt_kvsOf, hno]; rfl
    · rw [if_neg e]
  refine wpAny_call (codeAny_call_builtin PySem.F.slot_dict_pop.plain PySem.F.entry_dict_pop (PySem.F.slot_dict_pop.check _ _ _ _ _ _ _ _ hD.typeIs (PySem.F.args_dict_pop_3 _ _ _) ?_))
  unfold Builtin.«dict.pop»
  refine wpAny_bind ?_
  unfold Builtin.Dict.keyAndDefault
  refine wpAny_bind (wpAny_notOrdered_dict hD.typeIs ?_)
  show wpAny _ _ (pure (d, Value.ref a, some Value.none)) _ _ s
  refine wpAny_pure ?_
  dsimp only
  have kp : (keyPart (Value.ref a)).isSome = false := rfl
  simp only [kp, Bool.false_eq_true, if_false]
  refine wpAny_bind ?_
  refine wpAny_dictEntries (N.get hm) hd ?_
  refine wpAny_bind (wpAny_pure ?_)
  cases hem : es.isEmpty with
  | true =>
    simp only [if_true]
    refine wpAny_bind (wpAny_rule ?_)
    refine wpAny_bind (wpAny_pure ?_)
    simp only [Option.isNone_none, if_true]
    refine wpAny_bind (wpAny_missedRemoval_other lo ?_)
    refine wpAny_bind (wpAny_rule (wpAny_pure ?_))
    refine h _ _ _ o D F hsame hr' (Nat.le_refl _) (gone ?_)
    have hx : xs = [] := by
      have e := size_of_entries he
      have e2 : es.size = 0 := by simpa [Array.isEmpty] using hem
      exact List.length_eq_zero_iff.mp (by omega)
    rw [hx]; rfl
  | false =>
    simp only [Bool.false_eq_true, if_false]
    refine wpAny_bind (takeOutH (by show A.units + 1 < cLine; exact hu) (tk.key (N.get hka)) hD ?_ ?_ hxs)
    · intro hno
      simp only [Option.isNone_none, if_true]
      refine wpAny_bind (wpAny_missedRemoval_other lo ?_)
      refine wpAny_bind (wpAny_rule (wpAny_pure ?_))
      exact h _ _ _ o D F hsame hr' (Nat.le_refl _) (gone hno)
    · rintro e p hp hev h' o' ho' ⟨es', ep', hc', hd', he'⟩ hs
      simp only [Option.isNone_some, Bool.false_eq_true, if_false]
      refine wpAny_bind (wpAny_letGo (wpAny_pure ?_))
      have hkv : kvsOf (xs.filter fun x => decide (x.1 ≠ ks)) = PySem.without (kvsOf xs) ks := by
        unfold kvsOf PySem.without
        rw [List.filter_map]; rfl
      refine h _ _ _ o' (delD (encTuple encO ks) D) (F.change hs (N _ hm).2.1 (N.fresh hm)) (news_upF N U hs ho')
        ⟨es', ep', _, hc', hd', he', List.Sublist.nodup (List.Sublist.map _ List.filter_sublist) hn, fun x hx => hk x (List.mem_filter.mp hx).1, ?_⟩ (List.length_filter_le ..) (fun ks' => lookup_del ks' D (keysOf hf))
      rw [hkv]
      exact FlatPairs.without (same_encTuple same_encO) hf ks
end
theorem isOpt_none : isOpt none .none = true := rfl
theorem isOpt_int (i : Int) (t : Tok) : isOpt (some i) (.int i t) = true := by simp [isOpt]
theorem tk2 {prog : Program} {w : World} {k0 k1 : Option Int} {v0 v1 : Value} {n : Nat} (a : isOpt k0 v0 = true) (b : isOpt k1 v1 = true) : TupKeyObj (optKind prog w) [k0, k1] { cls := .type "tuple", data := .seq #[v0, v1] n } :=
  ⟨rfl, _, _, rfl, .cons a (.cons b .nil)⟩
end
section
open PySem.Calls
noncomputable def FEnd (h₀ : Heap) (L : Addr) (x : Str) (stored : List Str) (m₀ : Str → Option Value) (J : List (Addr × Obj) → Prop) (I : Addr) (it : Obj) (s₁ s₂ : Shared) : Prop :=
  ∃ h' tk m' nx, s₂ = { s₁ with heap := h', toks := tk } ∧ Fr h₀ L h' m' ∧ News h₀ L h' ((I, it) :: nx) ∧ (∀ z, z ≠ x → stored.contains z = false → m' z = m₀ z) ∧ J nx
noncomputable def FPost (h₀ : Heap) (L : Addr) (x : Str) (stored : List Str) (m₀ : Str → Option Value) (J : List (Addr × Obj) → Prop) (I : Addr) (it : Obj) (s₁ : Shared) (Q : Flow → Shared → Prop) (f : Flow) (s₂ : Shared) : Prop :=
  match f with
  | .ret v => Q (.ret v) s₂
  | .brk => Q .next s₂
  | _ => FEnd h₀ L x stored m₀ J I it s₁ s₂
theorem FPost.intro {h₀ : Heap} {L : Addr} {x : Str} {stored : List Str} {m₀ m' : Str → Option Value} {J : List (Addr × Obj) → Prop} {I : Addr} {it : Obj} {s₁ : Shared} {Q : Flow → Shared → Prop} {h' : Heap} {tk : Nat} {nx : List (Addr × Obj)}
    (F : Fr h₀ L h' m') (N : News h₀ L h' ((I, it) :: nx)) (hz : ∀ z, z ≠ x → stored.contains z = false → m' z = m₀ z) (hj : J nx) : FPost h₀ L x stored m₀ J I it s₁ Q .next { s₁ with heap := h', toks := tk } :=
  ⟨h', tk, m', nx, rfl, F, N, hz, hj⟩
section
variable {prog : Program} {w : World} {A : Around} {E : Value → Shared → Prop} {s : Shared} {env : Env} {h₀ : Heap} {x : Str} {body : List Stmt} {Q : Flow → Shared → Prop}
theorem fmap (x : Str) (stored : List Str) (m m₀ : Str → Option Value) (v : Value) (hm : ∀ z, z ≠ x → stored.contains z = false → m z = m₀ z) :
    (fun z => if z = x then some v else m z) = fun z => if z = x then some v else if stored.contains z then m z else m₀ z := by
  funext z
  by_cases h1 : z = x
  · simp [h1]
  · simp only [if_neg h1]
    cases h3 : stored.contains z with
    | true => simp
    | false => simp only [Bool.false_eq_true, if_false]; exact hm z h1 h3
theorem fmap' (x : Str) (stored : List Str) (m m₀ : Str → Option Value) (hm : ∀ z, z ≠ x → stored.contains z = false → m z = m₀ z) :
    m = fun z => if z = x then m z else if stored.contains z then m z else m₀ z := by
  funext z
  by_cases h1 : z = x
  · simp [h1]
  · simp only [if_neg h1]
    cases h3 : stored.contains z with
    | true => simp
    | false => simp only [Bool.false_eq_true, if_false]; exact hm z h1 h3
/-- a for over a list of the ledger -/
theorem for_items {ax : Addr} {items : List Value} {n : Nat} {m₀ : Str → Option Value} {news : List (Addr × Obj)} (stored : List Str) (J : Nat → List (Addr × Obj) → Prop)
    (hh : A.handled = none) (F : Fr h₀ env.locals s.heap m₀) (N : News h₀ env.locals s.heap news) (hm : (ax, W.listOf items.toArray n) ∈ news) (hax : ∀ i nx, J i nx → (ax, W.listOf items.toArray n) ∈ nx)
    (hlt : ∀ i nx p, J i nx → p ∈ nx → ∃ q ∈ news, q.1 = p.1) (hj : J 0 news)
    (turn : ∀ i v (u : Str → Option Value) nx (I : Addr) it h tk, items[i]? = some v → (∀ p ∈ nx, p.1 < I) → J i nx → Fr h₀ env.locals h (fun z => if z = x then some v else if stored.contains z then u z else m₀ z) → News h₀ env.locals h ((I, it) :: nx) →
      wpAny (model prog w) A (execs body env) (FPost h₀ env.locals x stored m₀ (J (i + 1)) I it { s with heap := h, toks := tk } Q) E { s with heap := h, toks := tk })
    (done : ∀ (u : Str → Option Value) nx h tk, J items.length nx → Fr h₀ env.locals h (fun z => if z = x then u z else if stored.contains z then u z else m₀ z) → News h₀ env.locals h nx → Q .next { s with heap := h, toks := tk }) :
    wpAny (model prog w) A (pyIter (.ref ax)) (fun it s₂ => LoopAtV prog w A h₀ env x body Q E it s₂) E s := by
  refine iter_listUnr hh F N hm rfl rfl fun I hI => ?_
  have key : ∀ (r : List Value) (i : Nat) (m : Str → Option Value) (nx : List (Addr × Obj)), items.drop i = r → i ≤ items.length → (∀ z, z ≠ x → stored.contains z = false → m z = m₀ z) → J i nx →
      ListRest prog w A E h₀ env x body Q s I (ax, W.listOf items.toArray n) r m nx := by
    intro r
    induction r with
    | nil =>
      intro i m nx hd hi hz hJ
      have e : i = items.length := by
        have := List.drop_eq_nil_iff.mp hd
        omega
      subst e
      refine ListRest.zero fun h tk F' N' => ?_
      rw [fmap' x stored m m₀ hz] at F'
      exact done m nx h tk hJ F' N'
    | cons v r ih =>
      intro i m nx hd hi hz hJ
      have hlt' : i < items.length := by
        rcases Nat.lt_or_ge i items.length with q | q
        · exact q
        · rw [List.drop_eq_nil_iff.mpr q] at hd; cases hd
      rw [List.drop_eq_getElem_cons hlt'] at hd
      injection hd with hv hr
      refine ListRest.succ fun it h tk hit F' N' => ?_
      rw [fmap x stored m m₀ v hz] at F'
      have hlow : ∀ p ∈ nx, p.1 < I := fun p hp => by
        obtain ⟨q, hq, e⟩ := hlt i nx p hJ hp
        exact e ▸ hI q hq
      refine wpAny_mono (turn i v m nx I it h tk (by rw [List.getElem?_eq_getElem hlt', hv]) hlow hJ F' N') (fun f s₂ p => ?_) fun _ _ e => e
      have fin : FEnd h₀ env.locals x stored m₀ (J (i + 1)) I it { s with heap := h, toks := tk } s₂ →
          UnrEnd h₀ env.locals { s with heap := h, toks := tk } I it (fun m' n' => (ax, W.listOf items.toArray n) ∈ n' ∧ ListRest prog w A E h₀ env x body Q s I (ax, W.listOf items.toArray n) r m' n') s₂ := by
        rintro ⟨h', tk', m', nx', e, F₂, N₂, hz', hJ'⟩
        refine ⟨h', tk', m', nx', e, F₂, N₂, fun p hp => ?_, hax _ _ hJ', ih (i + 1) m' nx' hr hlt' hz' hJ'⟩
        obtain ⟨q, hq, e'⟩ := hlt _ nx' p hJ' hp
        exact Nat.ne_of_lt (e' ▸ hI q hq)
      cases f with
      | ret v => exact p
      | brk => exact p
      | next => exact fin p
      | cont => exact fin p
  exact key items 0 m₀ news (by simp) (Nat.zero_le _) (fun _ _ _ => rfl) hj
/-- a for over a range from 0 -/
theorem for_range {r : Addr} {b₀ : Int} {t₀ u₀ v₀ : Tok} {n : Nat} {m₀ : Str → Option Value} {news : List (Addr × Obj)} (stored : List Str) (J : Nat → List (Addr × Obj) → Prop)
    (hh : A.handled = none) (hr : IsRange s.heap r 0 b₀ 1 t₀ u₀ v₀) (hsmall : Builtin.Range.small 0 b₀ 1 = true) (hn : Builtin.Range.rangeSize 0 b₀ 1 = (n : Int)) (F : Fr h₀ env.locals s.heap m₀) (N : News h₀ env.locals s.heap news)
    (hlt : ∀ i nx p, J i nx → p ∈ nx → ∃ q ∈ news, q.1 = p.1) (hj : J 0 news)
    (turn : ∀ i t (u : Str → Option Value) nx (I : Addr) it h tk, i < n → (∀ p ∈ nx, p.1 < I) → J i nx → Fr h₀ env.locals h (fun z => if z = x then some (.int (i : Int) t) else if stored.contains z then u z else m₀ z) → News h₀ env.locals h ((I, it) :: nx) →
      wpAny (model prog w) A (execs body env) (FPost h₀ env.locals x stored m₀ (J (i + 1)) I it { s with heap := h, toks := tk } Q) E { s with heap := h, toks := tk })
    (done : ∀ (u : Str → Option Value) nx h tk, J n nx → Fr h₀ env.locals h (fun z => if z = x then u z else if stored.contains z then u z else m₀ z) → News h₀ env.locals h nx → Q .next { s with heap := h, toks := tk }) :
    wpAny (model prog w) A (pyIter (.ref r)) (fun it s₂ => LoopAtV prog w A h₀ env x body Q E it s₂) E s := by
  refine iter_rangeUnr hh hr hsmall hn F N fun I hI => ?_
  have key : ∀ (k i : Nat) (m : Str → Option Value) (nx : List (Addr × Obj)), i + k = n → (∀ z, z ≠ x → stored.contains z = false → m z = m₀ z) → J i nx →
      RangeRest prog w A E h₀ env x body Q s I 0 n k i m nx := by
    intro k
    induction k with
    | zero =>
      intro i m nx hi hz hJ
      have e : i = n := by omega
      subst e
      refine RangeRest.zero fun h tk F' N' => ?_
      rw [fmap' x stored m m₀ hz] at F'
      exact done m nx h tk hJ F' N'
    | succ k ih =>
      intro i m nx hi hz hJ
      refine RangeRest.succ fun t h tk F' N' => ?_
      rw [fmap x stored m m₀ _ hz, Int.zero_add] at F'
      have hlow : ∀ p ∈ nx, p.1 < I := fun p hp => by
        obtain ⟨q, hq, e⟩ := hlt i nx p hJ hp
        exact e ▸ hI q hq
      refine wpAny_mono (turn i t m nx I _ h tk (by omega) hlow hJ F' N') (fun f s₂ p => ?_) fun _ _ e => e
      have fin : FEnd h₀ env.locals x stored m₀ (J (i + 1)) I (itR (0 + ((i + 1 : Nat) : Int)) ((n : Int) - ((i + 1 : Nat) : Int))) { s with heap := h, toks := tk } s₂ →
          UnrEnd h₀ env.locals { s with heap := h, toks := tk } I (itR (0 + ((i + 1 : Nat) : Int)) ((n : Int) - ((i + 1 : Nat) : Int))) (RangeRest prog w A E h₀ env x body Q s I 0 n k (i + 1)) s₂ := by
        rintro ⟨h', tk', m', nx', e, F₂, N₂, hz', hJ'⟩
        refine ⟨h', tk', m', nx', e, F₂, N₂, fun p hp => ?_, ih (i + 1) m' nx' (by omega) hz' hJ'⟩
        obtain ⟨q, hq, e'⟩ := hlt _ nx' p hJ' hp
        exact Nat.ne_of_lt (e' ▸ hI q hq)
      cases f with
      | ret v => exact p
      | brk => exact p
      | next => exact fin p
      | cont => exact fin p
  exact key n 0 m₀ news (by omega) (fun _ _ _ => rfl) hj
noncomputable def FEnd2 (h₀ : Heap) (L : Addr) (x y : Str) (stored : List Str) (m₀ : Str → Option Value) (J : Value → List (Addr × Obj) → Prop) (I : Addr) (it : Obj) (s₁ s₂ : Shared) : Prop :=
  ∃ h' tk m' nx v, s₂ = { s₁ with heap := h', toks := tk } ∧ Fr h₀ L h' m' ∧ News h₀ L h' ((I, it) :: nx) ∧ m' y = some v ∧ (∀ z, z ≠ x → z ≠ y → stored.contains z = false → m' z = m₀ z) ∧ J v nx
noncomputable def FPost2 (h₀ : Heap) (L : Addr) (x y : Str) (stored : List Str) (m₀ : Str → Option Value) (J : Value → List (Addr × Obj) → Prop) (I : Addr) (it : Obj) (s₁ : Shared) (Q : Flow → Shared → Prop) (f : Flow) (s₂ : Shared) : Prop :=
  match f with
  | .ret v => Q (.ret v) s₂
  | .brk => Q .next s₂
  | _ => FEnd2 h₀ L x y stored m₀ J I it s₁ s₂
theorem FPost2.intro {h₀ : Heap} {L : Addr} {x y : Str} {stored : List Str} {m₀ m' : Str → Option Value} {J : Value → List (Addr × Obj) → Prop} {I : Addr} {it : Obj} {s₁ : Shared} {Q : Flow → Shared → Prop} {h' : Heap} {tk : Nat} {nx : List (Addr × Obj)} {v : Value}
    (F : Fr h₀ L h' m') (N : News h₀ L h' ((I, it) :: nx)) (hv : m' y = some v) (hz : ∀ z, z ≠ x → z ≠ y → stored.contains z = false → m' z = m₀ z) (hj : J v nx) : FPost2 h₀ L x y stored m₀ J I it s₁ Q .next { s₁ with heap := h', toks := tk } :=
  ⟨h', tk, m', nx, v, rfl, F, N, hv, hz, hj⟩
theorem fmap2 (x y : Str) (stored : List Str) (m m₀ : Str → Option Value) (v : Value) (hy : m y = some v) (hm : ∀ z, z ≠ x → z ≠ y → stored.contains z = false → m z = m₀ z) :
    m = fun z => if z = x then m z else if z = y then some v else if stored.contains z then m z else m₀ z := by
  funext z
  by_cases h1 : z = x
  · simp [h1]
  · by_cases h2 : z = y
    · subst h2; simp [h1, hy]
    · simp only [if_neg h1, if_neg h2]
      cases h3 : stored.contains z with
      | true => simp
      | false => simp only [Bool.false_eq_true, if_false]; exact hm z h1 h2 h3
theorem fmap3 (x y : Str) (stored : List Str) (m m₀ : Str → Option Value) (v c : Value) (hy : m y = some v) (hm : ∀ z, z ≠ x → z ≠ y → stored.contains z = false → m z = m₀ z) :
    (fun z => if z = x then some c else m z) = fun z => if z = x then some c else if z = y then some v else if stored.contains z then m z else m₀ z := by
  funext z
  by_cases h1 : z = x
  · simp [h1]
  · have := congrFun (fmap2 x y stored m m₀ v hy hm) z
    simp only [if_neg h1] at this ⊢
    exact this
/-- a for over a range from 0 whose turns turn the name y and the ledger -/
theorem for_range2 {r : Addr} {b₀ : Int} {t₀ u₀ v₀ : Tok} {n : Nat} {m₀ : Str → Option Value} {news : List (Addr × Obj)} (y : Str) (stored : List Str) (J : Addr → Nat → Value → List (Addr × Obj) → Prop) {c₀ : Value}
    (hh : A.handled = none) (hr : IsRange s.heap r 0 b₀ 1 t₀ u₀ v₀) (hsmall : Builtin.Range.small 0 b₀ 1 = true) (hn : Builtin.Range.rangeSize 0 b₀ 1 = (n : Int)) (F : Fr h₀ env.locals s.heap m₀) (N : News h₀ env.locals s.heap news)
    (hy : m₀ y = some c₀) (hj : ∀ I : Addr, (∀ p ∈ news, p.1 < I) → J I 0 c₀ news) (hoff : ∀ I i c nx, J I i c nx → ∀ p ∈ nx, p.1 ≠ I)
    (turn : ∀ i t (u : Str → Option Value) c nx (I : Addr) it h tk, i < n → J I i c nx → Fr h₀ env.locals h (fun z => if z = x then some (.int (i : Int) t) else if z = y then some c else if stored.contains z then u z else m₀ z) → News h₀ env.locals h ((I, it) :: nx) →
      wpAny (model prog w) A (execs body env) (FPost2 h₀ env.locals x y stored m₀ (J I (i + 1)) I it { s with heap := h, toks := tk } Q) E { s with heap := h, toks := tk })
    (done : ∀ I (u : Str → Option Value) c nx h tk, J I n c nx → Fr h₀ env.locals h (fun z => if z = x then u z else if z = y then some c else if stored.contains z then u z else m₀ z) → News h₀ env.locals h nx → Q .next { s with heap := h, toks := tk }) :
    wpAny (model prog w) A (pyIter (.ref r)) (fun it s₂ => LoopAtV prog w A h₀ env x body Q E it s₂) E s := by
  refine iter_rangeUnr hh hr hsmall hn F N fun I hI => ?_
  have key : ∀ (k i : Nat) (m : Str → Option Value) (c : Value) (nx : List (Addr × Obj)), i + k = n → m y = some c → (∀ z, z ≠ x → z ≠ y → stored.contains z = false → m z = m₀ z) → J I i c nx →
      RangeRest prog w A E h₀ env x body Q s I 0 n k i m nx := by
    intro k
    induction k with
    | zero =>
      intro i m c nx hi hc hz hJ
      have e : i = n := by omega
      subst e
      refine RangeRest.zero fun h tk F' N' => ?_
      rw [fmap2 x y stored m m₀ c hc hz] at F'
      exact done I m c nx h tk hJ F' N'
    | succ k ih =>
      intro i m c nx hi hc hz hJ
      refine RangeRest.succ fun t h tk F' N' => ?_
      rw [fmap3 x y stored m m₀ c _ hc hz, Int.zero_add] at F'
      refine wpAny_mono (turn i t m c nx I _ h tk (by omega) hJ F' N') (fun f s₂ p => ?_) fun _ _ e => e
      have fin : FEnd2 h₀ env.locals x y stored m₀ (J I (i + 1)) I (itR (0 + ((i + 1 : Nat) : Int)) ((n : Int) - ((i + 1 : Nat) : Int))) { s with heap := h, toks := tk } s₂ →
          UnrEnd h₀ env.locals { s with heap := h, toks := tk } I (itR (0 + ((i + 1 : Nat) : Int)) ((n : Int) - ((i + 1 : Nat) : Int))) (RangeRest prog w A E h₀ env x body Q s I 0 n k (i + 1)) s₂ := by
        rintro ⟨h', tk', m', nx', v, e, F₂, N₂, hv, hz', hJ'⟩
        exact ⟨h', tk', m', nx', e, F₂, N₂, hoff _ _ _ _ hJ', ih (i + 1) m' v nx' (by omega) hv hz' hJ'⟩
      cases f with
      | ret v => exact p
      | brk => exact p
      | next => exact fin p
      | cont => exact fin p
  exact key n 0 m₀ c₀ news (by omega) hy (fun _ _ _ _ => rfl) (hj I hI)
end
end
section
open PySem.Calls
noncomputable def TupAt (ax : Addr) (its : Array Value) (nw : List (Addr × Obj)) : Prop := False ∨ ∃ o, (ax, o) ∈ nw ∧ o.cls = .type "tuple" ∧ ∃ n, o.data = .seq its n
theorem TupAt.at {h₀ h : Heap} {L ax : Addr} {its : Array Value} {nw : List (Addr × Obj)} (t : TupAt ax its nw) (N : News h₀ L h nw) : h.IsTuple ax its := by
  rcases t with t | ⟨o, hm, r⟩
  · exact t.elim
  · exact ⟨o, (N _ hm).1, r⟩
/-- where a list block's iterable, a tuple of the ledger, has been reckoned -/
noncomputable def TupSrc (prog : Program) (w : World) (A : Around) (h₀ : Heap) (L : Addr) (m : Str → Option Value) (env : Env) (elt : PySem.Expr) (x : Str) (scope : Scope) (cl : List (Str × Addr)) (Fin : Shared → List Value → List (Addr × Obj) → Prop) (xv : Value) (s₁ : Shared) : Prop :=
  ∃ ax its news, xv = .ref ax ∧ A.handled = none ∧ Fr h₀ L s₁.heap m ∧ News h₀ L s₁.heap news ∧ TupAt ax its news ∧ its.size ≤ sizeLine ∧
    ∀ s₂ : Shared, (∃ h, s₂ = { s₁ with heap := h }) → LCg.CompRest prog w A h₀ L m env elt x scope cl s₂ (TupAt ax its) (fun i v => its[i]? = some v) (Fin s₂) its.size 0 [] news
theorem o3_3 {I C D a0 a1 a2 : Addr} {nx : List (Addr × Obj)} (o : Obj) (h : ((@Ne Nat a0 I) ∧ (@Ne Nat a0 C) ∧ (@Ne Nat a0 D)) ∧ ((@Ne Nat a1 I) ∧ (@Ne Nat a1 C) ∧ (@Ne Nat a1 D)) ∧ ((@Ne Nat a2 I) ∧ (@Ne Nat a2 C) ∧ (@Ne Nat a2 D)) ∧ LCg.Off3 I C D nx) : LCg.Off3 I C D ((a0, o) :: (a1, o) :: (a2, o) :: nx) := h
theorem o3_5 {I C D a0 a1 a2 a3 a4 : Addr} {nx : List (Addr × Obj)} (o : Obj) (h : ((@Ne Nat a0 I) ∧ (@Ne Nat a0 C) ∧ (@Ne Nat a0 D)) ∧ ((@Ne Nat a1 I) ∧ (@Ne Nat a1 C) ∧ (@Ne Nat a1 D)) ∧ ((@Ne Nat a2 I) ∧ (@Ne Nat a2 C) ∧ (@Ne Nat a2 D)) ∧ ((@Ne Nat a3 I) ∧ (@Ne Nat a3 C) ∧ (@Ne Nat a3 D)) ∧ ((@Ne Nat a4 I) ∧ (@Ne Nat a4 C) ∧ (@Ne Nat a4 D)) ∧ LCg.Off3 I C D nx) : LCg.Off3 I C D ((a0, o) :: (a1, o) :: (a2, o) :: (a3, o) :: (a4, o) :: nx) := h
theorem o3_7 {I C D a0 a1 a2 a3 a4 a5 a6 : Addr} {nx : List (Addr × Obj)} (o : Obj) (h : ((@Ne Nat a0 I) ∧ (@Ne Nat a0 C) ∧ (@Ne Nat a0 D)) ∧ ((@Ne Nat a1 I) ∧ (@Ne Nat a1 C) ∧ (@Ne Nat a1 D)) ∧ ((@Ne Nat a2 I) ∧ (@Ne Nat a2 C) ∧ (@Ne Nat a2 D)) ∧ ((@Ne Nat a3 I) ∧ (@Ne Nat a3 C) ∧ (@Ne Nat a3 D)) ∧ ((@Ne Nat a4 I) ∧ (@Ne Nat a4 C) ∧ (@Ne Nat a4 D)) ∧ ((@Ne Nat a5 I) ∧ (@Ne Nat a5 C) ∧ (@Ne Nat a5 D)) ∧ ((@Ne Nat a6 I) ∧ (@Ne Nat a6 C) ∧ (@Ne Nat a6 D)) ∧ LCg.Off3 I C D nx) : LCg.Off3 I C D ((a0, o) :: (a1, o) :: (a2, o) :: (a3, o) :: (a4, o) :: (a5, o) :: (a6, o) :: nx) := h
theorem cells_b (ns : List Int) : ∀ c ∈ (List.take 10 ns).map (fun k' => (if k' < 0 then -k' else k').fmod (10 ^ Int.toNat 24)), (0 : Int) ≤ c ∧ c < 10 ^ 24 := fun c hc => by
  obtain ⟨k, _, rfl⟩ := List.mem_map.mp hc
  exact ⟨Int.fmod_nonneg_of_pos _ (by decide), Int.fmod_lt_of_pos _ (by decide)⟩
theorem cells_l (ns : List Int) : ((List.take 10 ns).map (fun k' => (if k' < 0 then -k' else k').fmod (10 ^ Int.toNat 24))).length ≤ 10 := by
  rw [List.length_map, List.length_take]; omega
theorem seed_lo (ns : List Int) (x : Int) : (0 : Int) ≤ 31 + (ns.length : Int) + x.fmod 1000003 := by
  have := Int.fmod_nonneg_of_pos x (show (0:Int) < 1000003 by decide); omega
theorem seed_hi (ns : List Int) (x : Int) (h : (ns.length : Int) ≤ 63) : 31 + (ns.length : Int) + x.fmod 1000003 < 3000000 := by
  have := Int.fmod_lt_of_pos x (show (0:Int) < 1000003 by decide); omega
theorem off1_mem {D : Addr} : ∀ {l : List (Addr × Obj)}, LCg.Off1 D l → ∀ p ∈ l, @Ne Nat p.1 D
  | [], _, _, h => nomatch h
  | _ :: _, x, p, h => by
    rcases List.mem_cons.mp h with rfl | h
    · exact x.1
    · exact off1_mem x.2 p h
theorem off3_map {I C D : Addr} : ∀ {l l' : List (Addr × Obj)}, LCg.Off3 I C D l → l.map (·.1) = l'.map (·.1) → LCg.Off3 I C D l'
  | [], [], _, _ => trivial
  | [], _ :: _, _, e => nomatch e
  | _ :: _, [], _, e => nomatch e
  | a :: l, b :: l', h, e => by
    have e' : a.1 :: l.map (·.1) = b.1 :: l'.map (·.1) := e
    injection e' with e1 e2
    refine ⟨?_, off3_map h.2 e2⟩
    rw [← e1]; exact h.1
theorem off2 {I C D sy z : Addr} {osy oz oI oC oD : Obj} {p1 p2 : Addr × Obj} {l l' r : List (Addr × Obj)} (h : LCg.Off3 I C D l) (e : l.map (·.1) = l'.map (·.1)) (lt : AllLt z (p1 :: p2 :: (I, oI) :: (C, oC) :: (D, oD) :: r)) (q : @LT.lt Nat _ z sy) :
    LCg.Off3 I C D ((sy, osy) :: (z, oz) :: l') := by
  have hI : @LT.lt Nat _ I z := lt.2.2.1
  have hC : @LT.lt Nat _ C z := lt.2.2.2.1
  have hD : @LT.lt Nat _ D z := lt.2.2.2.2.1
  refine ⟨⟨?_, ?_, ?_⟩, ⟨?_, ?_, ?_⟩, off3_map h e⟩ <;> (dsimp only; omega)
/-- apart from onm and orw -/
theorem ne_turn {I C D k : Addr} {oI oC oD : Obj} {l : List (Addr × Obj)} {ok : Obj} {l0 : List (Addr × Obj)} (h : LCg.Off3 I C D l0) (hk : (k, ok) ∈ l0) (hl : ∀ p ∈ l, p.1 ≠ k) : ∀ p ∈ (I, oI) :: (C, oC) :: (D, oD) :: l, p.1 ≠ k := fun p hp => by
  have h3 := LCg.Off3.mem h _ hk
  rcases List.mem_cons.mp hp with rfl | hp
  · exact Ne.symm h3.1
  · rcases List.mem_cons.mp hp with rfl | hp
    · exact Ne.symm h3.2.1
    · rcases List.mem_cons.mp hp with rfl | hp
      · exact Ne.symm h3.2.2
      · exact hl p hp
theorem ne_turn2 {sy z k : Addr} {osy oz : Obj} {l : List (Addr × Obj)} {r : List (Addr × Obj)} {ok : Obj} (lt : AllLt z r) (hk : (k, ok) ∈ r) (q : @LT.lt Nat _ z sy) (hl : ∀ p ∈ l, p.1 ≠ k) : ∀ p ∈ (sy, osy) :: (z, oz) :: l, p.1 ≠ k := fun p hp => by
  have h3 : @LT.lt Nat _ k z := tb_ltOf lt _ hk
  rcases List.mem_cons.mp hp with rfl | hp
  · exact Ne.symm (Nat.ne_of_lt (Nat.lt_trans h3 q))
  · rcases List.mem_cons.mp hp with rfl | hp
    · exact Ne.symm (Nat.ne_of_lt h3)
    · exact hl p hp
theorem compEnd3 {h₀ : Heap} {L I C D : Addr} {m : Str → Option Value} {s₁ : Shared} {oI oC oD : Obj} {S : List (Addr × Obj) → Prop} {rest : Value → List (Addr × Obj) → Prop} {y : Value} {h' : Heap} {tk : Nat} {news' : List (Addr × Obj)}
    (F : Fr h₀ L h' m) (N : News h₀ L h' ((I, oI) :: (C, oC) :: (D, oD) :: news')) (off : LCg.Off3 I C D news') (hS : S news') (r : rest y news') :
    LCg.CompEnd h₀ L m s₁ I oI C oC D oD S rest y { s₁ with heap := h', toks := tk } := ⟨h', tk, news', rfl, F, N, off, hS, r⟩
section
variable {prog : Program} {w : World} {A : Around} {E : Value → Shared → Prop} {s : Shared} {h₀ : Heap} {L : Addr} {m : Str → Option Value} {env : Env}
theorem TupSrc.intro {elt : PySem.Expr} {x : Str} {scope : Scope} {cl : List (Str × Addr)} {Fin : Shared → List Value → List (Addr × Obj) → Prop} {ax : Addr} {its : Array Value} {k : Nat} {news : List (Addr × Obj)} {s₁ : Shared}
    (hh : A.handled = none) (F : Fr h₀ L s₁.heap m) (N : News h₀ L s₁.heap news) (hm : (ax, ({ cls := .type "tuple", data := .seq its k } : Obj)) ∈ news) (hsz : its.size ≤ sizeLine)
    (h : ∀ g, LCg.CompRest prog w A h₀ L m env elt x scope cl { s₁ with heap := g } (TupAt ax its) (fun i v => its[i]? = some v) (Fin { s₁ with heap := g }) its.size 0 [] news) :
    TupSrc prog w A h₀ L m env elt x scope cl Fin (.ref ax) s₁ := ⟨ax, its, news, rfl, hh, F, N, .inr ⟨_, hm, rfl, _, rfl⟩, hsz, fun _ ⟨g, e⟩ => e ▸ h g⟩
theorem asg_tup {elt iter : PySem.Expr} {x y : Str} {px py : Pos} {scope : Scope} {cl : List (Str × Addr)} {pos spos : Pos} {Q : Flow → Shared → Prop} (F₀ : Fr h₀ L s.heap m) (hLe : env.locals = L)
    (hsw : swapsWith (.ListComp elt [⟨.Name x px, iter, [], 0⟩] scope pos) (some (.Name y py)) spos.line env = pure true)
    (hclos : closureFor scope env = pure cl) (hcell : ∀ z ∈ scope.names, z.2 ≠ .cell) (hkind : scope.kind = .function)
    (hnames : ∀ z ∈ scope.names, z.2 = .local → scope.names.lookup z.1 = some .local) (hx : scope.names.lookup x = some .local)
    (hy : env.kindOf y = some .local) (hp : (env.scope.kind == .class || (env.scope.kind == .module && env.locals != env.globals)) = false)
    (h : wpAny (model prog w) A (eval iter env) (TupSrc prog w A h₀ L m env elt x scope cl (fun s₂ => LCg.FinA h₀ L m s₂ y Q)) E s)
    (hs : ∀ x, foldedSetIterable iter env x = pure x := by intro _; rfl) :
    wpAny (model prog w) A (exec (.Assign [.Name y py] (.ListComp elt [⟨.Name x px, iter, [], 0⟩] scope pos) spos) env) Q E s := by
  subst hLe
  rw [exec_Assign_Name_used _ _ _ _ hsw]
  refine wpAny_bind (wpAny_standAt (wpAny_bind ?_))
  show wpAny _ A (do let _ ← comprehension (.ListComp elt [⟨.Name x px, iter, [], 0⟩] scope pos) scope env _ (newList []) false (eval iter env) (some (assign (.Name y py) env))) _ _ s
  refine wpAny_bind (wpAny_mono (wpAny_comprehension_free (use := some (assign (.Name y py) env)) (Q := fun _ s' => Q .next s') rfl hs hclos hkind hnames
    (wpAny_mono h (fun xv s₁ h₁ => ?_) fun _ _ e => e)) (fun _ s' hq => wpAny_pure (wpAny_pure hq)) fun _ _ e => e)
  obtain ⟨ax, its, news, rfl, hh, F, N, S, hsz, R⟩ := h₁
  have hl := S.at N
  have hlt : ax < s₁.heap.objs.size := by obtain ⟨_, e, _⟩ := hl; exact Heap.lt_size e
  refine wpAny_pyIter_tuple hl ?_
  have up : ∀ b o, s₁.heap.get? b = some o → (s₁.heap.push { cls := .type "tuple_iterator", data := .fields #[.ref ax, .int 0 0] }).get? b = some o := fun b o e => Heap.get?_push_of_some _ e
  refine LCg.block_U (Walks.tuple hh s₁.heap.objs.size ax (Nat.ne_of_lt hlt) its) hsz (fun i h st => by obtain ⟨o, e, _⟩ := st.1; exact ⟨o, e⟩)
    (fun i h h' o nw st e e' k N S => ⟨by obtain ⟨o', q, r⟩ := st.1; rw [e] at q; cases q; exact ⟨o, e', r⟩, TupAt.at S N⟩) hcell hkind hx ⟨⟨_, Heap.get?_push_size _ rfl, rfl, rfl⟩, hl.push _⟩ (fun b hb => ?_)
    (F.keeps up) (N.grown up) (Nat.ne_of_lt F.ns.lt) (next_is_new F) (fun p hp => Nat.ne_of_lt (Heap.lt_size (N p hp).1)) S (R _ ⟨_, rfl⟩) ?_
  · show b < (s₁.heap.push _).objs.size
    rw [Heap.size_push]
    rcases List.mem_cons.mp hb with rfl | hb
    · exact Nat.lt_succ_self _
    · rw [List.mem_singleton.mp hb]; exact Nat.lt_succ_of_lt hlt
  · intro D C h' tk m' ys news' F' N' o1 hn hC₀ hD₀ hCL hDL hCD offC fin
    show wpAny _ A (assign (.Name y py) env (.ref D)) _ _ _
    refine wpAny_assign_Name (wpAny_storeName_local hy F'.ns (fun h₂ hn₂ hs₂ => ?_) hp)
    have hL₀ : h₀.get? env.locals = none := Heap.get?_none_of_le F'.above
    have F₂ : Fr h₀ env.locals h₂ (fun z => if z = y then some (.ref D) else m z) := ⟨hn₂, fun b o e => hs₂.extBut b o (fun q => by rw [q, hL₀] at e; cases e) (F'.keep b o e), F'.above⟩
    refine ⟨m', hn.sameBut hs₂ hCL, fun h'' hs'' => fin D h'' _ (F₂.change hs'' hCL hC₀) (fun p hp => ?_) o1⟩
    have z : h₂.get? p.1 = some p.2 := hs₂.extBut _ _ (N' p hp).2.1 (N' p hp).1
    refine ⟨hs''.extBut _ _ ?_ z, (N' p hp).2⟩
    rcases List.mem_cons.mp hp with rfl | hp
    · exact Ne.symm hCD
    · exact offC p hp
/-- a for over a tuple of the ledger whose turns leave the ledger as it was -/
theorem for_tup {ax : Addr} {its : Array Value} {k : Nat} {x : Str} {body : List Stmt} {Q : Flow → Shared → Prop} {m₀ : Str → Option Value} {news : List (Addr × Obj)} (stored : List Str)
    (hh : A.handled = none) (F : Fr h₀ env.locals s.heap m₀) (N : News h₀ env.locals s.heap news) (hm : (ax, ({ cls := .type "tuple", data := .seq its k } : Obj)) ∈ news)
    (turn : ∀ (i : Nat) (v : Value) (u : Str → Option Value) (I : Addr) it h tk, its[i]? = some v → (∀ p ∈ news, p.1 < I) → Fr h₀ env.locals h (fun z => if z = x then some v else if stored.contains z then u z else m₀ z) → News h₀ env.locals h ((I, it) :: news) →
      wpAny (model prog w) A (execs body env) (FPost h₀ env.locals x stored m₀ (fun nx => nx = news) I it { s with heap := h, toks := tk } Q) E { s with heap := h, toks := tk })
    (done : ∀ (u : Str → Option Value) h tk, Fr h₀ env.locals h (fun z => if z = x then u z else if stored.contains z then u z else m₀ z) → News h₀ env.locals h news → Q .next { s with heap := h, toks := tk }) :
    wpAny (model prog w) A (pyIter (.ref ax)) (fun it s₂ => LoopAtV prog w A h₀ env x body Q E it s₂) E s := by
  have hax := N _ hm
  have hl : s.heap.IsTuple ax its := ⟨_, hax.1, rfl, k, rfl⟩
  have hlt : ax < s.heap.objs.size := Heap.lt_size hax.1
  have hne : ax ≠ s.heap.objs.size := Nat.ne_of_lt hlt
  refine wpAny_pyIter_tuple hl ?_
  have W := Walks.tuple (prog := prog) (w := w) hh s.heap.objs.size ax hne its
  have hnew := next_is_new F
  have hI : ∀ p ∈ news, p.1 < s.heap.objs.size := fun p hp => Heap.lt_size (N p hp).1
  let J : Nat → (Str → Option Value) → List (Addr × Obj) → Prop := fun _ m₁ nx => nx = news ∧ ∀ z, z ≠ x → stored.contains z = false → m₁ z = m₀ z
  refine ⟨_, _, _, its.size, _, _, m₀, news, J, rfl, W, ?_, ?_, ?_, ⟨⟨_, Heap.get?_push_size _ rfl, rfl, rfl⟩, hl.push _⟩, F.push _, (fun p hp => ⟨Heap.get?_push_of_some _ (N p hp).1, (N p hp).2⟩), ⟨rfl, fun _ _ _ => rfl⟩, ?_, ?_⟩
  · intro hmm
    rcases List.mem_cons.mp hmm with e | hmm
    · exact absurd F.ns.lt (e ▸ Nat.lt_irrefl _)
    · exact hax.2.1 (List.mem_singleton.mp hmm).symm
  · intro b hb
    rw [List.mem_singleton.mp hb]
    exact hnew
  · intro p hp hIm
    exact absurd (hI p hp) ((List.mem_singleton.mp hIm) ▸ Nat.lt_irrefl _)
  · rintro i v m₁ news₁ s₁ own ⟨hh', tk', rfl⟩ hin hP ⟨rfl, hz⟩ hoff hown hget hall hst F₁ N₁
    obtain ⟨it, hit, hic, hid⟩ := hst.1
    have hmemI := hall s.heap.objs.size (List.mem_cons_self ..) hnew _ hit
    rw [fmap x stored m₁ m₀ v hz] at F₁
    have N₂ : News h₀ env.locals hh' ((s.heap.objs.size, it) :: news₁) := fun p hp => by
      rcases List.mem_cons.mp hp with rfl | hp
      · exact N₁ _ (List.mem_append_left _ hmemI)
      · exact N₁ _ (List.mem_append_right _ hp)
    refine wpAny_mono (turn i v m₁ _ it hh' tk' hP hI F₁ N₂) (fun f s₂ p => ?_) fun _ _ e => e
    have fin : FEnd h₀ env.locals x stored m₀ (fun nx => nx = news₁) s.heap.objs.size it { s with heap := hh', toks := tk' } s₂ →
        LoopStepU h₀ env.locals [s.heap.objs.size] own (J (i + 1)) { s with heap := hh', toks := tk' } .next s₂ := by
      rintro ⟨h', tk, m', news', e, F', N', hz', rfl⟩
      refine ⟨rfl, h', tk, m', _, e, F', fun p hp => ?_, fun p hp hIm => absurd (hI p hp) ((List.mem_singleton.mp hIm) ▸ Nat.lt_irrefl _), rfl, hz'⟩
      rcases List.mem_append.mp hp with hp | hp
      · have h2 : hh'.get? p.1 = some p.2 := hget p hp
        rcases List.mem_cons.mp (hown p hp) with h1 | h1
        · have h3 : p = (s.heap.objs.size, it) := by
            rw [h1, hit] at h2
            exact Prod.ext h1 (Option.some.inj h2).symm
          rw [h3]; exact N' _ (List.mem_cons_self ..)
        · have h1' : p.1 = ax := List.mem_singleton.mp h1
          have h3 : p = (ax, ({ cls := .type "tuple", data := .seq its k } : Obj)) := by
            rw [h1', (N₁ _ (List.mem_append_right _ hm)).1] at h2
            exact Prod.ext h1' (Option.some.inj h2).symm
          rw [h3]; exact N' _ (List.mem_cons_of_mem _ hm)
      · exact N' _ (List.mem_cons_of_mem _ hp)
    cases f with
    | ret v => exact .ret p
    | brk => exact .brk p
    | next => exact .next (fin p)
    | cont => exact .cont (fin p)
  · rintro h' tk m' news' F' N' _ ⟨rfl, hz⟩
    rw [fmap' x stored m' m₀ hz] at F'
    exact done m' h' tk F' N'
end
end
section
/-- where things lie -/
structure Ad where
  wo : Addr
  wd : Addr
  ob : Addr
  obd : Addr
  orw : Addr
  onm : Addr
  cc : Addr
  va : Addr
  vd : Addr
  dd : Addr
  au : Addr
  pe : Addr
  ba : Addr
  bd : Addr
  bv : Addr
  bl : Addr
  b0 : Addr
  e0 : Addr
  l0 : Addr
  f0 : Addr
  v0 : Addr
  b1 : Addr
  e1 : Addr
  l1 : Addr
  f1 : Addr
  v1 : Addr
  sl : Addr
  s0 : Addr
  z0 : Addr
  s1 : Addr
  z1 : Addr
  s2 : Addr
  z2 : Addr
  sk : Addr
  sd : Addr
  sr : Addr
  rw : Addr
  kp : Addr
  dk : Addr
  ce : Addr
  se : Addr
  tk : Nat → Tok
  c : Nat → Nat
  off : List Addr
noncomputable def Ad.muts (A : Ad) : List Addr := [A.ce, A.se, A.wd, A.dd, A.v0, A.v1, A.sr, A.rw, A.kp]
noncomputable abbrev PP : Program := PySem.Challenge.rw_np0094_01.row.prog
/-- the state that the turns turn -/
structure Si where
  cur : Option Int
  Dd : List (PyData × PyData)
  D0 : List (PyData × PyData)
  D1 : List (PyData × PyData)
  R : List (PyData × PyData)
  K : List ((Option Int × Int) × PyData)
  S : List ((Option Int × Int) × PyData)
inductive All2 {α β : Type} (R : α → β → Prop) : List α → List β → Prop
  | nil : All2 R [] []
  | cons {a : α} {b : β} {as : List α} {bs : List β} : R a b → All2 R as bs → All2 R (a :: as) (b :: bs)
section
variable {α β : Type} {R R' : α → β → Prop}
theorem All2.length {as : List α} {bs : List β} (h : All2 R as bs) : as.length = bs.length := by
  induction h with
  | nil => rfl
  | cons _ _ ih => simp [ih]
theorem All2.mono {as : List α} {bs : List β} (h : All2 R as bs) (k : ∀ a b, R a b → R' a b) : All2 R' as bs := by
  induction h with
  | nil => exact .nil
  | cons a _ ih => exact .cons (k _ _ a) ih
theorem All2.snoc {as : List α} {bs : List β} {a : α} {b : β} (h : All2 R as bs) (x : R a b) : All2 R (as ++ [a]) (bs ++ [b]) := by
  induction h with
  | nil => exact .cons x .nil
  | cons y _ ih => exact .cons y ih
theorem All2.last {as : List α} {bs : List β} {b : β} (h : All2 R as (bs ++ [b])) : ∃ as' a, as = as' ++ [a] ∧ R a b ∧ All2 R as' bs := by
  induction bs generalizing as with
  | nil =>
    cases h with
    | cons x y => cases y; exact ⟨[], _, rfl, x, .nil⟩
  | cons c bs ih =>
    cases h with
    | cons x y =>
      obtain ⟨as', a, rfl, hx, hy⟩ := ih y
      exact ⟨_ :: as', a, rfl, hx, .cons x hy⟩
end
noncomputable abbrev tup (vs : Array Value) (n : Nat) : Obj := { cls := .type "tuple", data := .seq vs n }
/-- a buffer's fields -/
noncomputable abbrev bufE (w : World) (k : Int) (nm : Str) (t t' a0 a1 a2 a3 a4 b4 a5 b5 a6 b6 a7 a8 a9 a10 b10 a11 b11 a12 b12 a13 a14 a15 a16 a17 a18 a19 : Tok) (tx mk ls : Addr) (LOC : Value) : List DictEntry :=
  [en w "number" a0 (.int k t), en w "name" a1 (.str nm t'), en w "text" a2 (.ref tx), en w "markers" a3 (.ref mk), en w "point" a4 (.int 1 b4), en w "begv" a5 (.int 1 b5), en w "zv" a6 (.int 1 b6), en w "mark" a7 (.none), en w "is_live" a8 (.bool true), en w "is_read_only" a9 (.bool false), en w "ticks" a10 (.int 1 b10), en w "codes_ticks" a11 (.int 1 b11), en w "saved_ticks" a12 (.int 1 b12), en w "listeners" a13 (.ref ls), en w "undo" a14 (.none), en w "props" a15 (.none), en w "overlays" a16 (.none), en w "locals" a17 (LOC), en w "syntax" a18 (.none), en w "file" a19 (.none)]
/-- what kept bears: a tuple of a place and a value -/
noncomputable def KeptV (P : Addr → Obj → Prop) (v : Value) (k : (Option Int × Int) × PyData) : Prop :=
  ∃ a pl x n1 n2 c nv, v = .ref a ∧ P a (tup #[.ref pl, x] n1) ∧ P pl (tup #[c, nv] n2) ∧ isOpt k.1.1 c = true ∧ isOpt (some k.1.2) nv = true ∧ PyProof.V.Flat x k.2
noncomputable def ownL (A : Ad) : Option Int → Value
  | none => .none
  | some i => if i = 0 then .ref A.l0 else .ref A.l1
noncomputable def sortO : Option Int → Int
  | none => 1
  | some _ => 0
/-- what the stack's rows bear: a Bound -/
noncomputable def BoundV (w : World) (A : Ad) (P : Addr → Obj → Prop) (v : Value) (k : (Option Int × Int) × PyData) : Prop :=
  ∃ b bd t1 t2 t3 t4 t5 t6 x, v = .ref b ∧ P b (instObj 372 bd) ∧
    P bd (dictOf [en w "sort" t1 (.int (sortO k.1.1) t2), en w "own" t3 (ownL A k.1.1), en w "symbol" t4 (.int (k.1.2 + 2) t5), en w "value" t6 x] 4) ∧ PyProof.V.Flat x k.2
noncomputable def IT (w : World) (o : Obj) (D : List (PyData × PyData)) : Prop := ∃ kvs, o.IsDictOf (intKind PP w) kvs ∧ PyProof.V.FlatPairs PyData.int kvs D
noncomputable def curV (A : Ad) : Option Int → Value
  | none => .none
  | some i => if i = 0 then .ref A.b0 else .ref A.b1
noncomputable abbrev wE (w : World) (A : Ad) (cv : Value) : List DictEntry :=
  [en w "obarray" (A.tk 0) (.ref A.ob), en w "cells" (A.tk 1) (.ref A.cc), en w "variables" (A.tk 2) (.ref A.va), en w "bare" (A.tk 3) (.ref A.ba), en w "current" (A.tk 4) cv, en w "machine" (A.tk 5) .none, en w "last_marker" (A.tk 6) (.int 0 (A.tk 7))]
noncomputable def PS (A : Ad) (nx : List (Addr × Obj)) (a : Addr) (o : Obj) : Prop := (a, o) ∈ nx ∧ a ∉ A.muts ∧ a ∉ A.off
/-- what stands -/
structure Stat (w : World) (A : Ad) (P : Addr → Obj → Prop) : Prop where
  wo : P A.wo (instObj 826 A.wd)
  va : P A.va (instObj 281 A.vd)
  vd : P A.vd (dictOf [en w "defaults" (A.tk 10) (.ref A.dd), en w "automatic" (A.tk 11) (.ref A.au), en w "permanent" (A.tk 12) (.ref A.pe)] 3)
  au : ∃ o, P A.au o ∧ IT w o []
  ba : P A.ba (instObj 337 A.bd)
  bd : P A.bd (dictOf [en w "values" (A.tk 13) (.ref A.bv)] 1)
  bv : ∃ o, P A.bv o ∧ IT w o []
  bl : P A.bl (W.listOf #[.ref A.b0, .ref A.b1] (A.c 0))
  b0 : P A.b0 (instObj 702 A.e0)
  e0 : ∃ es n, P A.e0 (dictOf es n) ∧ getL (Str.ofString "locals") es = some (some (.ref A.l0))
  l0 : P A.l0 (instObj 337 A.f0)
  f0 : P A.f0 (dictOf [en w "values" (A.tk 14) (.ref A.v0)] 1)
  b1 : P A.b1 (instObj 702 A.e1)
  e1 : ∃ es n, P A.e1 (dictOf es n) ∧ getL (Str.ofString "locals") es = some (some (.ref A.l1))
  l1 : P A.l1 (instObj 337 A.f1)
  f1 : P A.f1 (dictOf [en w "values" (A.tk 15) (.ref A.v1)] 1)
  sl : P A.sl (W.listOf #[.ref A.s0, .ref A.s1, .ref A.s2] (A.c 1))
  s0 : P A.s0 (instObj 58 A.z0)
  z0 : P A.z0 (dictOf [en w "number" (A.tk 20) (.int 2 (A.tk 21)), en w "name" (A.tk 22) (.str (Str.ofString "a") (A.tk 23))] 2)
  s1 : P A.s1 (instObj 58 A.z1)
  z1 : P A.z1 (dictOf [en w "number" (A.tk 24) (.int 3 (A.tk 25)), en w "name" (A.tk 26) (.str (Str.ofString "b") (A.tk 27))] 2)
  s2 : P A.s2 (instObj 58 A.z2)
  z2 : P A.z2 (dictOf [en w "number" (A.tk 28) (.int 4 (A.tk 29)), en w "name" (A.tk 30) (.str (Str.ofString "c") (A.tk 31))] 2)
  sk : P A.sk (instObj 435 A.sd)
  sd : P A.sd (dictOf [en w "world" (A.tk 32) (.ref A.wo), en w "rows" (A.tk 33) (.ref A.sr)] 2)
  dk : P A.dk (W.listOf #[.ref A.ce, .ref A.se] (A.c 2))
  ob : P A.ob (instObj 777 A.obd)
  obd : P A.obd (dictOf [en w "rows" (A.tk 40) (.ref A.orw), en w "names" (A.tk 41) (.ref A.onm)] 2)
  orw : ∃ (vs : List Value) (c : Nat), P A.orw (W.listOf vs.toArray c) ∧ vs.length ≤ 10
  onm : ∃ o kvs, P A.onm o ∧ o.IsDictOf (PySem.strKind PP w) kvs ∧ kvs.length ≤ 10 ∧ nokey kvs (Str.ofString ":key")
  lowo : (A.onm == sysModules) = false ∧ @Ne Nat A.onm A.orw ∧ (@Ne Nat A.wo A.onm ∧ @Ne Nat A.wo A.orw) ∧ (@Ne Nat A.ob A.onm ∧ @Ne Nat A.ob A.orw) ∧ (@Ne Nat A.obd A.onm ∧ @Ne Nat A.obd A.orw) ∧ (@Ne Nat A.sk A.onm ∧ @Ne Nat A.sk A.orw) ∧ (@Ne Nat A.sd A.onm ∧ @Ne Nat A.sd A.orw)
  lows : (A.dd == sysModules) = false ∧ (A.au == sysModules) = false ∧ (A.bv == sysModules) = false ∧ (A.v0 == sysModules) = false ∧ (A.v1 == sysModules) = false ∧ (A.rw == sysModules) = false
theorem Stat.mono {w : World} {A : Ad} {P P' : Addr → Obj → Prop} (S : Stat w A P) (k : ∀ a o, P a o → P' a o) : Stat w A P' where
  wo := k _ _ S.wo
  va := k _ _ S.va
  vd := k _ _ S.vd
  au := let ⟨o, a, b⟩ := S.au; ⟨o, k _ _ a, b⟩
  ba := k _ _ S.ba
  bd := k _ _ S.bd
  bv := let ⟨o, a, b⟩ := S.bv; ⟨o, k _ _ a, b⟩
  bl := k _ _ S.bl
  b0 := k _ _ S.b0
  e0 := let ⟨es, n, a, b⟩ := S.e0; ⟨es, n, k _ _ a, b⟩
  l0 := k _ _ S.l0
  f0 := k _ _ S.f0
  b1 := k _ _ S.b1
  e1 := let ⟨es, n, a, b⟩ := S.e1; ⟨es, n, k _ _ a, b⟩
  l1 := k _ _ S.l1
  f1 := k _ _ S.f1
  sl := k _ _ S.sl
  s0 := k _ _ S.s0
  z0 := k _ _ S.z0
  s1 := k _ _ S.s1
  z1 := k _ _ S.z1
  s2 := k _ _ S.s2
  z2 := k _ _ S.z2
  sk := k _ _ S.sk
  sd := k _ _ S.sd
  dk := k _ _ S.dk
  ob := k _ _ S.ob
  obd := k _ _ S.obd
  orw := let ⟨vs, c, a, b⟩ := S.orw; ⟨vs, c, k _ _ a, b⟩
  onm := let ⟨o, kvs, a, b⟩ := S.onm; ⟨o, kvs, k _ _ a, b⟩
  lowo := S.lowo
  lows := S.lows
theorem Stat.use {w : World} {A : Ad} {nx : List (Addr × Obj)} {G : Prop} (S : Stat w A (fun a o => (a, o) ∈ nx)) (k : (A.wo, (instObj 826 A.wd)) ∈ nx → (A.va, (instObj 281 A.vd)) ∈ nx → (A.vd, (dictOf [en w "defaults" (A.tk 10) (.ref A.dd), en w "automatic" (A.tk 11) (.ref A.au), en w "permanent" (A.tk 12) (.ref A.pe)] 3)) ∈ nx → ∀ o, (A.au, o) ∈ nx → ∀ kvs : List (Int × Value), o.IsDictOf (intKind PP w) kvs → PyProof.V.FlatPairs PyData.int kvs [] → (A.ba, (instObj 337 A.bd)) ∈ nx → (A.bd, (dictOf [en w "values" (A.tk 13) (.ref A.bv)] 1)) ∈ nx → ∀ o, (A.bv, o) ∈ nx → ∀ kvs : List (Int × Value), o.IsDictOf (intKind PP w) kvs → PyProof.V.FlatPairs PyData.int kvs [] → (A.bl, (W.listOf #[.ref A.b0, .ref A.b1] (A.c 0))) ∈ nx → (A.b0, (instObj 702 A.e0)) ∈ nx → ∀ es n, (A.e0, dictOf es n) ∈ nx → getL (Str.ofString "locals") es = some (some (.ref A.l0)) → (A.l0, (instObj 337 A.f0)) ∈ nx → (A.f0, (dictOf [en w "values" (A.tk 14) (.ref A.v0)] 1)) ∈ nx → (A.b1, (instObj 702 A.e1)) ∈ nx → ∀ es n, (A.e1, dictOf es n) ∈ nx → getL (Str.ofString "locals") es = some (some (.ref A.l1)) → (A.l1, (instObj 337 A.f1)) ∈ nx → (A.f1, (dictOf [en w "values" (A.tk 15) (.ref A.v1)] 1)) ∈ nx → (A.sl, (W.listOf #[.ref A.s0, .ref A.s1, .ref A.s2] (A.c 1))) ∈ nx → (A.s0, (instObj 58 A.z0)) ∈ nx → (A.z0, (dictOf [en w "number" (A.tk 20) (.int 2 (A.tk 21)), en w "name" (A.tk 22) (.str (Str.ofString "a") (A.tk 23))] 2)) ∈ nx → (A.s1, (instObj 58 A.z1)) ∈ nx → (A.z1, (dictOf [en w "number" (A.tk 24) (.int 3 (A.tk 25)), en w "name" (A.tk 26) (.str (Str.ofString "b") (A.tk 27))] 2)) ∈ nx → (A.s2, (instObj 58 A.z2)) ∈ nx → (A.z2, (dictOf [en w "number" (A.tk 28) (.int 4 (A.tk 29)), en w "name" (A.tk 30) (.str (Str.ofString "c") (A.tk 31))] 2)) ∈ nx → (A.sk, (instObj 435 A.sd)) ∈ nx → (A.sd, (dictOf [en w "world" (A.tk 32) (.ref A.wo), en w "rows" (A.tk 33) (.ref A.sr)] 2)) ∈ nx → (A.dk, (W.listOf #[.ref A.ce, .ref A.se] (A.c 2))) ∈ nx → (A.dd == sysModules) = false → (A.au == sysModules) = false → (A.bv == sysModules) = false → (A.v0 == sysModules) = false → (A.v1 == sysModules) = false → (A.rw == sysModules) = false → G) : G := by
  obtain ⟨oau, mau, kau, aau, bau⟩ := S.au
  obtain ⟨obv, mbv, kbv, abv, bbv⟩ := S.bv
  obtain ⟨ese0, ne0, me0, ae0⟩ := S.e0
  obtain ⟨ese1, ne1, me1, ae1⟩ := S.e1
  exact k S.wo S.va S.vd oau mau kau aau bau S.ba S.bd obv mbv kbv abv bbv S.bl S.b0 ese0 ne0 me0 ae0 S.l0 S.f0 S.b1 ese1 ne1 me1 ae1 S.l1 S.f1 S.sl S.s0 S.z0 S.s1 S.z1 S.s2 S.z2 S.sk S.sd S.dk S.lows.1 S.lows.2.1 S.lows.2.2.1 S.lows.2.2.2.1 S.lows.2.2.2.2.1 S.lows.2.2.2.2.2
theorem KeptV.mono {P P' : Addr → Obj → Prop} {v : Value} {k : (Option Int × Int) × PyData} (h : KeptV P v k) (q : ∀ a o, P a o → P' a o) : KeptV P' v k :=
  let ⟨a, pl, x, n1, n2, c, nv, h1, h2, h3, h4⟩ := h
  ⟨a, pl, x, n1, n2, c, nv, h1, q _ _ h2, q _ _ h3, h4⟩
theorem BoundV.mono {w : World} {A : Ad} {P P' : Addr → Obj → Prop} {v : Value} {k : (Option Int × Int) × PyData} (h : BoundV w A P v k) (q : ∀ a o, P a o → P' a o) : BoundV w A P' v k :=
  let ⟨b, bd, t1, t2, t3, t4, t5, t6, x, h1, h2, h3, h4⟩ := h
  ⟨b, bd, t1, t2, t3, t4, t5, t6, x, h1, q _ _ h2, q _ _ h3, h4⟩
structure Rep (w : World) (A : Ad) (σ : Si) (nx : List (Addr × Obj)) : Prop where
  nd : A.muts.Nodup
  moff : ∀ a ∈ A.muts, a ∉ A.off
  offin : ∀ a ∈ A.off, ∃ o, (a, o) ∈ nx
  st : Stat w A (PS A nx)
  wd : (A.wd, dictOf (wE w A (curV A σ.cur)) 7) ∈ nx
  dd : ∃ o, (A.dd, o) ∈ nx ∧ IT w o σ.Dd
  v0 : ∃ o, (A.v0, o) ∈ nx ∧ IT w o σ.D0
  v1 : ∃ o, (A.v1, o) ∈ nx ∧ IT w o σ.D1
  rw : ∃ o, (A.rw, o) ∈ nx ∧ RowsO PP w (fun p => PS A nx p.1 p.2) o σ.R
  kp : ∃ vs c, (A.kp, W.listOf vs.toArray c) ∈ nx ∧ All2 (KeptV (PS A nx)) vs σ.K
  sr : ∃ vs c, (A.sr, W.listOf vs.toArray c) ∈ nx ∧ All2 (BoundV w A (PS A nx)) vs σ.S
  ce : ∃ ys cells c1, (A.ce, W.listOf ys.toArray c1) ∈ nx ∧ IntsAre ys cells ∧ (∀ c ∈ cells, (0:Int) ≤ c ∧ c < 10 ^ 24) ∧ cells.length ≤ 10
  se : ∃ sv t c2, (A.se, W.listOf #[.int sv t] c2) ∈ nx ∧ 0 ≤ sv ∧ sv < 3000000
theorem Rep.use {w : World} {A : Ad} {σ : Si} {nx : List (Addr × Obj)} {G : Prop} (R : Rep w A σ nx) (k : (A.wo, (instObj 826 A.wd)) ∈ nx → (A.va, (instObj 281 A.vd)) ∈ nx → (A.vd, (dictOf [en w "defaults" (A.tk 10) (.ref A.dd), en w "automatic" (A.tk 11) (.ref A.au), en w "permanent" (A.tk 12) (.ref A.pe)] 3)) ∈ nx → ∀ o, (A.au, o) ∈ nx → ∀ kvs : List (Int × Value), o.IsDictOf (intKind PP w) kvs → PyProof.V.FlatPairs PyData.int kvs [] → (A.ba, (instObj 337 A.bd)) ∈ nx → (A.bd, (dictOf [en w "values" (A.tk 13) (.ref A.bv)] 1)) ∈ nx → ∀ o, (A.bv, o) ∈ nx → ∀ kvs : List (Int × Value), o.IsDictOf (intKind PP w) kvs → PyProof.V.FlatPairs PyData.int kvs [] → (A.bl, (W.listOf #[.ref A.b0, .ref A.b1] (A.c 0))) ∈ nx → (A.b0, (instObj 702 A.e0)) ∈ nx → ∀ es n, (A.e0, dictOf es n) ∈ nx → getL (Str.ofString "locals") es = some (some (.ref A.l0)) → (A.l0, (instObj 337 A.f0)) ∈ nx → (A.f0, (dictOf [en w "values" (A.tk 14) (.ref A.v0)] 1)) ∈ nx → (A.b1, (instObj 702 A.e1)) ∈ nx → ∀ es n, (A.e1, dictOf es n) ∈ nx → getL (Str.ofString "locals") es = some (some (.ref A.l1)) → (A.l1, (instObj 337 A.f1)) ∈ nx → (A.f1, (dictOf [en w "values" (A.tk 15) (.ref A.v1)] 1)) ∈ nx → (A.sl, (W.listOf #[.ref A.s0, .ref A.s1, .ref A.s2] (A.c 1))) ∈ nx → (A.s0, (instObj 58 A.z0)) ∈ nx → (A.z0, (dictOf [en w "number" (A.tk 20) (.int 2 (A.tk 21)), en w "name" (A.tk 22) (.str (Str.ofString "a") (A.tk 23))] 2)) ∈ nx → (A.s1, (instObj 58 A.z1)) ∈ nx → (A.z1, (dictOf [en w "number" (A.tk 24) (.int 3 (A.tk 25)), en w "name" (A.tk 26) (.str (Str.ofString "b") (A.tk 27))] 2)) ∈ nx → (A.s2, (instObj 58 A.z2)) ∈ nx → (A.z2, (dictOf [en w "number" (A.tk 28) (.int 4 (A.tk 29)), en w "name" (A.tk 30) (.str (Str.ofString "c") (A.tk 31))] 2)) ∈ nx → (A.sk, (instObj 435 A.sd)) ∈ nx → (A.sd, (dictOf [en w "world" (A.tk 32) (.ref A.wo), en w "rows" (A.tk 33) (.ref A.sr)] 2)) ∈ nx → (A.dk, (W.listOf #[.ref A.ce, .ref A.se] (A.c 2))) ∈ nx → (A.dd == sysModules) = false → (A.au == sysModules) = false → (A.bv == sysModules) = false → (A.v0 == sysModules) = false → (A.v1 == sysModules) = false → (A.rw == sysModules) = false → G) : G := Stat.use (R.st.mono fun _ _ h => h.1) k
theorem Rep.dyn {w : World} {A : Ad} {σ : Si} {nx : List (Addr × Obj)} {G : Prop} (R : Rep w A σ nx) (k : (A.wd, dictOf (wE w A (curV A σ.cur)) 7) ∈ nx → ∀ o, (A.dd, o) ∈ nx → ∀ kvs : List (Int × Value), o.IsDictOf (intKind PP w) kvs → PyProof.V.FlatPairs PyData.int kvs σ.Dd → ∀ o, (A.v0, o) ∈ nx → ∀ kvs : List (Int × Value), o.IsDictOf (intKind PP w) kvs → PyProof.V.FlatPairs PyData.int kvs σ.D0 → ∀ o, (A.v1, o) ∈ nx → ∀ kvs : List (Int × Value), o.IsDictOf (intKind PP w) kvs → PyProof.V.FlatPairs PyData.int kvs σ.D1 → G) : G := by
  obtain ⟨o1, m1, k1, a1, b1⟩ := R.dd
  obtain ⟨o2, m2, k2, a2, b2⟩ := R.v0
  obtain ⟨o3, m3, k3, a3, b3⟩ := R.v1
  exact k R.wd o1 m1 k1 a1 b1 o2 m2 k2 a2 b2 o3 m3 k3 a3 b3
/-- the ledger but for fp -/
noncomputable def butL (fp : List Addr) (nx : List (Addr × Obj)) : List (Addr × Obj) := nx.filter fun p => decide (p.1 ∉ fp)
theorem mem_butL {fp : List Addr} {nx : List (Addr × Obj)} {p : Addr × Obj} : p ∈ butL fp nx ↔ p ∈ nx ∧ p.1 ∉ fp := by
  unfold butL; rw [List.mem_filter]; simp
theorem butL_news {h₀ h : Heap} {L : Addr} {fp : List Addr} {nx : List (Addr × Obj)} (N : News h₀ L h nx) : News h₀ L h (butL fp nx) := fun p hp => N p (mem_butL.mp hp).1
theorem butL_ne {fp : List Addr} {nx : List (Addr × Obj)} {a : Addr} (ha : a ∈ fp) : ∀ p ∈ butL fp nx, p.1 ≠ a := fun p hp e => (mem_butL.mp hp).2 (e ▸ ha)
theorem PS.but {A : Ad} {fp : List Addr} {nx nx' : List (Addr × Obj)} (hs : ∀ p ∈ butL fp nx, p ∈ nx') (hf : ∀ a ∈ fp, a ∈ A.muts) (a : Addr) (o : Obj) (h : PS A nx a o) : PS A nx' a o :=
  ⟨hs _ (mem_butL.mpr ⟨h.1, fun q => h.2.1 (hf _ q)⟩), h.2⟩
noncomputable def Ext (A : Ad) (nx nx' : List (Addr × Obj)) : Prop := ∀ p ∈ nx, p.1 ∉ A.muts → p ∈ nx'
theorem Ext.refl {A : Ad} {nx : List (Addr × Obj)} : Ext A nx nx := fun _ h _ => h
theorem Ext.trans {A : Ad} {nx nx' nx'' : List (Addr × Obj)} (a : Ext A nx nx') (b : Ext A nx' nx'') : Ext A nx nx'' := fun p h k => b p (a p h k) k
theorem Ext.ps {A : Ad} {nx nx' : List (Addr × Obj)} (x : Ext A nx nx') (a : Addr) (o : Obj) (h : PS A nx a o) : PS A nx' a o := ⟨x _ h.1 h.2.1, h.2⟩
theorem Ext.of_but {A : Ad} {fp : List Addr} {nx nx' : List (Addr × Obj)} (hs : ∀ p ∈ butL fp nx, p ∈ nx') (hf : ∀ a ∈ fp, a ∈ A.muts) : Ext A nx nx' := fun _ h k => hs _ (mem_butL.mpr ⟨h, fun q => k (hf _ q)⟩)
theorem Rep.upd {w : World} {A : Ad} {σ : Si} {nx nx' : List (Addr × Obj)} (R : Rep w A σ nx) (fp : List Addr) (hf : ∀ a ∈ fp, a ∈ A.muts) (hs : ∀ p ∈ butL fp nx, p ∈ nx') (σ' : Si)
    (wd : (A.wd ∉ fp ∧ σ'.cur = σ.cur) ∨ (A.wd, dictOf (wE w A (curV A σ'.cur)) 7) ∈ nx')
    (dd : (A.dd ∉ fp ∧ σ'.Dd = σ.Dd) ∨ ∃ o, (A.dd, o) ∈ nx' ∧ IT w o σ'.Dd)
    (v0 : (A.v0 ∉ fp ∧ σ'.D0 = σ.D0) ∨ ∃ o, (A.v0, o) ∈ nx' ∧ IT w o σ'.D0)
    (v1 : (A.v1 ∉ fp ∧ σ'.D1 = σ.D1) ∨ ∃ o, (A.v1, o) ∈ nx' ∧ IT w o σ'.D1)
    (rw' : (A.rw ∉ fp ∧ σ'.R = σ.R) ∨ ∃ o, (A.rw, o) ∈ nx' ∧ RowsO PP w (fun p => PS A nx' p.1 p.2) o σ'.R)
    (kp : (A.kp ∉ fp ∧ σ'.K = σ.K) ∨ ∃ vs c, (A.kp, W.listOf vs.toArray c) ∈ nx' ∧ All2 (KeptV (PS A nx')) vs σ'.K)
    (sr : (A.sr ∉ fp ∧ σ'.S = σ.S) ∨ ∃ vs c, (A.sr, W.listOf vs.toArray c) ∈ nx' ∧ All2 (BoundV w A (PS A nx')) vs σ'.S)
    (ce : A.ce ∉ fp ∨ ∃ ys cells c1, (A.ce, W.listOf ys.toArray c1) ∈ nx' ∧ IntsAre ys cells ∧ (∀ c ∈ cells, (0:Int) ≤ c ∧ c < 10 ^ 24) ∧ cells.length ≤ 10)
    (se : A.se ∉ fp ∨ ∃ sv t c2, (A.se, W.listOf #[.int sv t] c2) ∈ nx' ∧ 0 ≤ sv ∧ sv < 3000000) : Rep w A σ' nx' := by
  have x : Ext A nx nx' := Ext.of_but hs hf
  have kM : ∀ {a : Addr} {o : Obj}, a ∉ fp → (a, o) ∈ nx → (a, o) ∈ nx' := fun ha h => hs _ (mem_butL.mpr ⟨h, ha⟩)
  refine ⟨R.nd, R.moff, fun a ha => ?_, R.st.mono x.ps, ?_, ?_, ?_, ?_, ?_, ?_, ?_, ?_, ?_⟩
  · obtain ⟨o, ho⟩ := R.offin a ha
    exact ⟨o, x _ ho fun q => R.moff a q ha⟩
  · rcases wd with ⟨a, b⟩ | b
    · rw [b]; exact kM a R.wd
    · exact b
  · rcases dd with ⟨a, b⟩ | b
    · obtain ⟨o, h1, h2⟩ := R.dd
      exact ⟨o, kM a h1, b ▸ h2⟩
    · exact b
  · rcases v0 with ⟨a, b⟩ | b
    · obtain ⟨o, h1, h2⟩ := R.v0
      exact ⟨o, kM a h1, b ▸ h2⟩
    · exact b
  · rcases v1 with ⟨a, b⟩ | b
    · obtain ⟨o, h1, h2⟩ := R.v1
      exact ⟨o, kM a h1, b ▸ h2⟩
    · exact b
  · rcases rw' with ⟨a, b⟩ | b
    · obtain ⟨o, h1, h2⟩ := R.rw
      exact ⟨o, kM a h1, b ▸ h2.mono fun p hp => x.ps _ _ hp⟩
    · exact b
  · rcases kp with ⟨a, b⟩ | b
    · obtain ⟨vs, c, h1, h2⟩ := R.kp
      exact ⟨vs, c, kM a h1, b ▸ h2.mono fun _ _ h => h.mono x.ps⟩
    · exact b
  · rcases sr with ⟨a, b⟩ | b
    · obtain ⟨vs, c, h1, h2⟩ := R.sr
      exact ⟨vs, c, kM a h1, b ▸ h2.mono fun _ _ h => h.mono x.ps⟩
    · exact b
  · rcases ce with a | b
    · obtain ⟨ys, cells, c1, h1, h2⟩ := R.ce
      exact ⟨ys, cells, c1, kM a h1, h2⟩
    · exact b
  · rcases se with a | b
    · obtain ⟨sv, t, c2, h1, h2⟩ := R.se
      exact ⟨sv, t, c2, kM a h1, h2⟩
    · exact b
/-- nothing turned -/
theorem Rep.ext {w : World} {A : Ad} {σ : Si} {nx nx' : List (Addr × Obj)} (R : Rep w A σ nx) (hs : ∀ p ∈ nx, p ∈ nx') : Rep w A σ nx' :=
  R.upd [] (fun _ h => (nomatch h)) (fun p hp => hs p (mem_butL.mp hp).1) σ (.inl ⟨List.not_mem_nil, rfl⟩) (.inl ⟨List.not_mem_nil, rfl⟩) (.inl ⟨List.not_mem_nil, rfl⟩) (.inl ⟨List.not_mem_nil, rfl⟩) (.inl ⟨List.not_mem_nil, rfl⟩)
    (.inl ⟨List.not_mem_nil, rfl⟩) (.inl ⟨List.not_mem_nil, rfl⟩) (.inl List.not_mem_nil) (.inl List.not_mem_nil)
/-- the turned places are apart -/
structure Apart (A : Ad) : Prop where
  ce_se : @Ne Nat A.ce A.se
  ce_wd : @Ne Nat A.ce A.wd
  ce_dd : @Ne Nat A.ce A.dd
  ce_v0 : @Ne Nat A.ce A.v0
  ce_v1 : @Ne Nat A.ce A.v1
  ce_sr : @Ne Nat A.ce A.sr
  ce_rw : @Ne Nat A.ce A.rw
  ce_kp : @Ne Nat A.ce A.kp
  se_wd : @Ne Nat A.se A.wd
  se_dd : @Ne Nat A.se A.dd
  se_v0 : @Ne Nat A.se A.v0
  se_v1 : @Ne Nat A.se A.v1
  se_sr : @Ne Nat A.se A.sr
  se_rw : @Ne Nat A.se A.rw
  se_kp : @Ne Nat A.se A.kp
  wd_dd : @Ne Nat A.wd A.dd
  wd_v0 : @Ne Nat A.wd A.v0
  wd_v1 : @Ne Nat A.wd A.v1
  wd_sr : @Ne Nat A.wd A.sr
  wd_rw : @Ne Nat A.wd A.rw
  wd_kp : @Ne Nat A.wd A.kp
  dd_v0 : @Ne Nat A.dd A.v0
  dd_v1 : @Ne Nat A.dd A.v1
  dd_sr : @Ne Nat A.dd A.sr
  dd_rw : @Ne Nat A.dd A.rw
  dd_kp : @Ne Nat A.dd A.kp
  v0_v1 : @Ne Nat A.v0 A.v1
  v0_sr : @Ne Nat A.v0 A.sr
  v0_rw : @Ne Nat A.v0 A.rw
  v0_kp : @Ne Nat A.v0 A.kp
  v1_sr : @Ne Nat A.v1 A.sr
  v1_rw : @Ne Nat A.v1 A.rw
  v1_kp : @Ne Nat A.v1 A.kp
  sr_rw : @Ne Nat A.sr A.rw
  sr_kp : @Ne Nat A.sr A.kp
  rw_kp : @Ne Nat A.rw A.kp
theorem Apart.of {A : Ad} (h : A.muts.Nodup) : Apart A := by
  unfold Ad.muts at h
  simp only [List.nodup_cons, List.mem_cons, List.not_mem_nil, or_false, not_or] at h
  obtain ⟨⟨a1, a2, a3, a4, a5, a6, a7, a8⟩, ⟨b1, b2, b3, b4, b5, b6, b7⟩, ⟨c1, c2, c3, c4, c5, c6⟩, ⟨d1, d2, d3, d4, d5⟩, ⟨e1, e2, e3, e4⟩, ⟨f1, f2, f3⟩, ⟨g1, g2⟩, i1, _⟩ := h
  exact ⟨a1, a2, a3, a4, a5, a6, a7, a8, b1, b2, b3, b4, b5, b6, b7, c1, c2, c3, c4, c5, c6, d1, d2, d3, d4, d5, e1, e2, e3, e4, f1, f2, f3, g1, g2, i1⟩
theorem ne1 {a b : Nat} (h : a ≠ b) : a ∉ [b] := by simpa using h
theorem ne1' {a b : Nat} (h : b ≠ a) : a ∉ [b] := by simpa using fun e => h (Eq.symm e)
theorem ne2' {a b c : Nat} (h : b ≠ a) (k : c ≠ a) : a ∉ [b, c] := by
  intro e
  simp only [List.mem_cons, List.not_mem_nil, or_false] at e
  rcases e with e | e
  · exact h e.symm
  · exact k e.symm
theorem Rep.there {w : World} {A : Ad} {σ : Si} {nx : List (Addr × Obj)} (R : Rep w A σ nx) (a : Addr) (h : a ∈ A.muts) : ∃ o, (a, o) ∈ nx := by
  unfold Ad.muts at h
  simp only [List.mem_cons, List.not_mem_nil, or_false] at h
  obtain ⟨_, _, _, m1, _⟩ := R.ce
  obtain ⟨_, _, _, m2, _⟩ := R.se
  obtain ⟨_, m3, _⟩ := R.dd
  obtain ⟨_, m4, _⟩ := R.v0
  obtain ⟨_, m5, _⟩ := R.v1
  obtain ⟨_, _, m6, _⟩ := R.sr
  obtain ⟨_, m7, _⟩ := R.rw
  obtain ⟨_, _, m8, _⟩ := R.kp
  rcases h with rfl | rfl | rfl | rfl | rfl | rfl | rfl | rfl | rfl
  · exact ⟨_, m1⟩
  · exact ⟨_, m2⟩
  · exact ⟨_, R.wd⟩
  · exact ⟨_, m3⟩
  · exact ⟨_, m4⟩
  · exact ⟨_, m5⟩
  · exact ⟨_, m6⟩
  · exact ⟨_, m7⟩
  · exact ⟨_, m8⟩
theorem but2a {h₀ h : Heap} {L : Addr} {nx : List (Addr × Obj)} {x y : Addr} {o o' : Obj} (N : News h₀ L h nx) (hx : (x, o) ∈ nx) : ∀ p ∈ butL [y] nx, p ∈ (x, o) :: (y, o') :: butL [x, y] nx := fun p hp => by
  obtain ⟨h1, h2⟩ := mem_butL.mp hp
  by_cases e : p.1 = x
  · have q1 := (N _ h1).1
    have q2 := (N _ hx).1
    rw [e] at q1
    have : p = (x, o) := Prod.ext e (Option.some.inj (q1.symm.trans q2))
    rw [this]; exact .head _
  · exact .tail _ (.tail _ (mem_butL.mpr ⟨h1, fun q => by
      rcases List.mem_cons.mp q with q | q
      · exact e q
      · exact h2 q⟩))
theorem but2b {h₀ h : Heap} {L : Addr} {nx : List (Addr × Obj)} {x y : Addr} {o o' : Obj} (N : News h₀ L h nx) (hy : (y, o') ∈ nx) : ∀ p ∈ butL [x] nx, p ∈ (x, o) :: (y, o') :: butL [x, y] nx := fun p hp => by
  obtain ⟨h1, h2⟩ := mem_butL.mp hp
  by_cases e : p.1 = y
  · have q1 := (N _ h1).1
    have q2 := (N _ hy).1
    rw [e] at q1
    have : p = (y, o') := Prod.ext e (Option.some.inj (q1.symm.trans q2))
    rw [this]; exact .tail _ (.head _)
  · exact .tail _ (.tail _ (mem_butL.mpr ⟨h1, fun q => by
      rcases List.mem_cons.mp q with q | q
      · exact h2 (by rw [q]; exact .head _)
      · exact e (List.mem_singleton.mp q)⟩))
theorem but1lt {nx : List (Addr × Obj)} {x b : Addr} {o : Obj} (h : ∀ p ∈ (x, o) :: butL [x] nx, p.1 < b) : ∀ p ∈ nx, p.1 < b := fun p hp => by
  by_cases e : p.1 = x
  · rw [e]; exact h _ (.head _)
  · exact h p (.tail _ (mem_butL.mpr ⟨hp, fun q => e (List.mem_singleton.mp q)⟩))
theorem but2lt {nx : List (Addr × Obj)} {x y b : Addr} {o o' : Obj} (h : ∀ p ∈ (x, o) :: (y, o') :: butL [x, y] nx, p.1 < b) : ∀ p ∈ nx, p.1 < b := fun p hp => by
  by_cases e : p.1 = x
  · rw [e]; exact h _ (.head _)
  · by_cases e2 : p.1 = y
    · rw [e2]; exact h _ (.tail _ (.head _))
    · exact h p (.tail _ (.tail _ (mem_butL.mpr ⟨hp, fun q => by
        rcases List.mem_cons.mp q with q | q
        · exact e q
        · exact e2 (List.mem_singleton.mp q)⟩)))
theorem PS.mb {A : Ad} {fp : List Addr} {nx : List (Addr × Obj)} (hf : ∀ a ∈ fp, a ∈ A.muts) {a : Addr} {o : Obj} (h : PS A nx a o) : (a, o) ∈ butL fp nx := mem_butL.mpr ⟨h.1, fun q => h.2.1 (hf _ q)⟩
theorem muts1 {A : Ad} {x : Addr} (h : x ∈ A.muts) : ∀ a ∈ [x], a ∈ A.muts := fun a ha => by rw [List.mem_singleton] at ha; exact ha ▸ h
theorem Rep.upDd {w : World} {A : Ad} {σ : Si} {nx nx' : List (Addr × Obj)} (R : Rep w A σ nx) (hs : ∀ p ∈ butL [A.dd] nx, p ∈ nx') {o : Obj} {D : List (PyData × PyData)} (hm : (A.dd, o) ∈ nx') (hi : IT w o D) : Rep w A { σ with Dd := D } nx' := by
  have ap := Apart.of R.nd
  exact R.upd [A.dd] (muts1 (by simp [Ad.muts])) hs _ (.inl ⟨ne1 ap.wd_dd, rfl⟩) (.inr ⟨_, hm, hi⟩) (.inl ⟨ne1' ap.dd_v0, rfl⟩) (.inl ⟨ne1' ap.dd_v1, rfl⟩) (.inl ⟨ne1' ap.dd_rw, rfl⟩) (.inl ⟨ne1' ap.dd_kp, rfl⟩) (.inl ⟨ne1' ap.dd_sr, rfl⟩) (.inl (ne1 ap.ce_dd)) (.inl (ne1 ap.se_dd))
theorem Rep.upD0 {w : World} {A : Ad} {σ : Si} {nx nx' : List (Addr × Obj)} (R : Rep w A σ nx) (hs : ∀ p ∈ butL [A.v0] nx, p ∈ nx') {o : Obj} {D : List (PyData × PyData)} (hm : (A.v0, o) ∈ nx') (hi : IT w o D) : Rep w A { σ with D0 := D } nx' := by
  have ap := Apart.of R.nd
  exact R.upd [A.v0] (muts1 (by simp [Ad.muts])) hs _ (.inl ⟨ne1 ap.wd_v0, rfl⟩) (.inl ⟨ne1 ap.dd_v0, rfl⟩) (.inr ⟨_, hm, hi⟩) (.inl ⟨ne1' ap.v0_v1, rfl⟩) (.inl ⟨ne1' ap.v0_rw, rfl⟩) (.inl ⟨ne1' ap.v0_kp, rfl⟩) (.inl ⟨ne1' ap.v0_sr, rfl⟩) (.inl (ne1 ap.ce_v0)) (.inl (ne1 ap.se_v0))
theorem Rep.upD1 {w : World} {A : Ad} {σ : Si} {nx nx' : List (Addr × Obj)} (R : Rep w A σ nx) (hs : ∀ p ∈ butL [A.v1] nx, p ∈ nx') {o : Obj} {D : List (PyData × PyData)} (hm : (A.v1, o) ∈ nx') (hi : IT w o D) : Rep w A { σ with D1 := D } nx' := by
  have ap := Apart.of R.nd
  exact R.upd [A.v1] (muts1 (by simp [Ad.muts])) hs _ (.inl ⟨ne1 ap.wd_v1, rfl⟩) (.inl ⟨ne1 ap.dd_v1, rfl⟩) (.inl ⟨ne1 ap.v0_v1, rfl⟩) (.inr ⟨_, hm, hi⟩) (.inl ⟨ne1' ap.v1_rw, rfl⟩) (.inl ⟨ne1' ap.v1_kp, rfl⟩) (.inl ⟨ne1' ap.v1_sr, rfl⟩) (.inl (ne1 ap.ce_v1)) (.inl (ne1 ap.se_v1))
theorem Rep.upR {w : World} {A : Ad} {σ : Si} {nx nx' : List (Addr × Obj)} (R : Rep w A σ nx) (hs : ∀ p ∈ butL [A.rw] nx, p ∈ nx') {o : Obj} {D : List (PyData × PyData)} (hm : (A.rw, o) ∈ nx') (hi : RowsO PP w (fun p => PS A nx' p.1 p.2) o D) : Rep w A { σ with R := D } nx' := by
  have ap := Apart.of R.nd
  exact R.upd [A.rw] (muts1 (by simp [Ad.muts])) hs _ (.inl ⟨ne1 ap.wd_rw, rfl⟩) (.inl ⟨ne1 ap.dd_rw, rfl⟩) (.inl ⟨ne1 ap.v0_rw, rfl⟩) (.inl ⟨ne1 ap.v1_rw, rfl⟩) (.inr ⟨_, hm, hi⟩) (.inl ⟨ne1' ap.rw_kp, rfl⟩) (.inl ⟨ne1 ap.sr_rw, rfl⟩) (.inl (ne1 ap.ce_rw)) (.inl (ne1 ap.se_rw))
theorem Rep.upK {w : World} {A : Ad} {σ : Si} {nx nx' : List (Addr × Obj)} (R : Rep w A σ nx) (hs : ∀ p ∈ butL [A.kp] nx, p ∈ nx') {vs : List Value} {c : Nat} {D : List ((Option Int × Int) × PyData)} (hm : (A.kp, W.listOf vs.toArray c) ∈ nx') (hi : All2 (KeptV (PS A nx')) vs D) : Rep w A { σ with K := D } nx' := by
  have ap := Apart.of R.nd
  exact R.upd [A.kp] (muts1 (by simp [Ad.muts])) hs _ (.inl ⟨ne1 ap.wd_kp, rfl⟩) (.inl ⟨ne1 ap.dd_kp, rfl⟩) (.inl ⟨ne1 ap.v0_kp, rfl⟩) (.inl ⟨ne1 ap.v1_kp, rfl⟩) (.inl ⟨ne1 ap.rw_kp, rfl⟩) (.inr ⟨_, _, hm, hi⟩) (.inl ⟨ne1 ap.sr_kp, rfl⟩) (.inl (ne1 ap.ce_kp)) (.inl (ne1 ap.se_kp))
theorem Rep.upS {w : World} {A : Ad} {σ : Si} {nx nx' : List (Addr × Obj)} (R : Rep w A σ nx) (hs : ∀ p ∈ butL [A.sr] nx, p ∈ nx') {vs : List Value} {c : Nat} {D : List ((Option Int × Int) × PyData)} (hm : (A.sr, W.listOf vs.toArray c) ∈ nx') (hi : All2 (BoundV w A (PS A nx')) vs D) : Rep w A { σ with S := D } nx' := by
  have ap := Apart.of R.nd
  exact R.upd [A.sr] (muts1 (by simp [Ad.muts])) hs _ (.inl ⟨ne1 ap.wd_sr, rfl⟩) (.inl ⟨ne1 ap.dd_sr, rfl⟩) (.inl ⟨ne1 ap.v0_sr, rfl⟩) (.inl ⟨ne1 ap.v1_sr, rfl⟩) (.inl ⟨ne1' ap.sr_rw, rfl⟩) (.inl ⟨ne1' ap.sr_kp, rfl⟩) (.inr ⟨_, _, hm, hi⟩) (.inl (ne1 ap.ce_sr)) (.inl (ne1 ap.se_sr))
theorem Rep.upC {w : World} {A : Ad} {σ : Si} {nx nx' : List (Addr × Obj)} (R : Rep w A σ nx) (hs : ∀ p ∈ butL [A.wd] nx, p ∈ nx') {c : Option Int} (hm : (A.wd, dictOf (wE w A (curV A c)) 7) ∈ nx') : Rep w A { σ with cur := c } nx' := by
  have ap := Apart.of R.nd
  exact R.upd [A.wd] (muts1 (by simp [Ad.muts])) hs _ (.inr hm) (.inl ⟨ne1' ap.wd_dd, rfl⟩) (.inl ⟨ne1' ap.wd_v0, rfl⟩) (.inl ⟨ne1' ap.wd_v1, rfl⟩) (.inl ⟨ne1' ap.wd_rw, rfl⟩) (.inl ⟨ne1' ap.wd_kp, rfl⟩) (.inl ⟨ne1' ap.wd_sr, rfl⟩) (.inl (ne1 ap.ce_wd)) (.inl (ne1 ap.se_wd))
/-- the state that no statement has touched -/
noncomputable def σ₀ : Si := ⟨none, [], [], [], [], [], []⟩
theorem notM {A : Ad} {a : Addr} (h1 : @Ne Nat a A.ce) (h2 : @Ne Nat a A.se) (h3 : @Ne Nat a A.wd) (h4 : @Ne Nat a A.dd) (h5 : @Ne Nat a A.v0) (h6 : @Ne Nat a A.v1) (h7 : @Ne Nat a A.sr) (h8 : @Ne Nat a A.rw) (h9 : @Ne Nat a A.kp) : a ∉ A.muts := by
  intro q
  simp only [Ad.muts, List.mem_cons, List.not_mem_nil, or_false] at q
  rcases q with q | q | q | q | q | q | q | q | q
  · exact h1 q
  · exact h2 q
  · exact h3 q
  · exact h4 q
  · exact h5 q
  · exact h6 q
  · exact h7 q
  · exact h8 q
  · exact h9 q
/-- the places in the order in which they were made -/
noncomputable abbrev Ad.ord (A : Ad) : List Nat := [A.ce, A.se, A.dk, A.wd, A.wo, A.obd, A.ob, A.orw, A.onm, A.vd, A.va, A.dd, A.au, A.bd, A.ba, A.bv, A.e0, A.b0, A.e1, A.b1, A.bl, A.f0, A.l0, A.v0, A.f1, A.l1, A.v1, A.z0, A.s0, A.z1, A.s1, A.z2, A.s2, A.sd, A.sk, A.sr, A.rw, A.kp]
theorem pw_cons {a b : Nat} {l : List Nat} (h : a < b) (p : (b :: l).Pairwise (· < ·)) : (a :: b :: l).Pairwise (· < ·) := List.pairwise_cons.mpr ⟨fun y hy => by
  rcases List.mem_cons.mp hy with rfl | hy
  · exact h
  · exact Nat.lt_trans h (List.rel_of_pairwise_cons p hy), p⟩
theorem ord_lt : ∀ {l : List Nat}, l.Pairwise (· < ·) → ∀ {i j : Nat} {x y : Nat}, i < j → l[i]? = some x → l[j]? = some y → x < y
  | [], _, _, _, _, _, _, hx, _ => by simp at hx
  | a :: l, h, 0, j + 1, x, y, _, hx, hy => by
    simp only [List.getElem?_cons_zero, Option.some.injEq, List.getElem?_cons_succ] at hx hy
    subst hx
    exact List.rel_of_pairwise_cons h (List.mem_of_getElem? hy)
  | a :: l, h, i + 1, j + 1, x, y, hij, hx, hy => by
    simp only [List.getElem?_cons_succ] at hx hy
    exact ord_lt (List.pairwise_cons.mp h).2 (Nat.lt_of_succ_lt_succ hij) hx hy
theorem ord_ne {l : List Nat} (h : l.Pairwise (· < ·)) {i j : Nat} {x y : Nat} (hij : i ≠ j) (hx : l[i]? = some x) (hy : l[j]? = some y) : @Ne Nat x y :=
  (Nat.lt_or_gt_of_ne hij).elim (fun q => Nat.ne_of_lt (ord_lt h q hx hy)) fun q => Nat.ne_of_gt (ord_lt h q hy hx)
theorem notM_at {A : Ad} (S : A.ord.Pairwise (· < ·)) {i : Nat} {x : Nat} (hx : A.ord[i]? = some x) (h : i ∉ [0, 1, 3, 11, 23, 26, 35, 36, 37]) : (show Addr from x) ∉ A.muts :=
  have k : ∀ j ∈ [0, 1, 3, 11, 23, 26, 35, 36, 37], i ≠ j := fun j hj e => h (e ▸ hj)
  notM (ord_ne S (k 0 (by decide)) hx rfl) (ord_ne S (k 1 (by decide)) hx rfl) (ord_ne S (k 3 (by decide)) hx rfl) (ord_ne S (k 11 (by decide)) hx rfl) (ord_ne S (k 23 (by decide)) hx rfl) (ord_ne S (k 26 (by decide)) hx rfl) (ord_ne S (k 35 (by decide)) hx rfl) (ord_ne S (k 36 (by decide)) hx rfl) (ord_ne S (k 37 (by decide)) hx rfl)
set_option maxHeartbeats 4000000 in
theorem Rep.start {w : World} {A : Ad} {nx : List (Addr × Obj)} (hoff : A.off = []) (c_se : @LT.lt Nat _ A.ce A.se) (c_dk : @LT.lt Nat _ A.se A.dk) (c_wd : @LT.lt Nat _ A.dk A.wd) (c_wo : @LT.lt Nat _ A.wd A.wo) (c_obd : @LT.lt Nat _ A.wo A.obd) (c_ob : @LT.lt Nat _ A.obd A.ob) (c_orw : @LT.lt Nat _ A.ob A.orw) (c_onm : @LT.lt Nat _ A.orw A.onm) (c_vd : @LT.lt Nat _ A.onm A.vd) (c_va : @LT.lt Nat _ A.vd A.va) (c_dd : @LT.lt Nat _ A.va A.dd) (c_au : @LT.lt Nat _ A.dd A.au) (c_bd : @LT.lt Nat _ A.au A.bd) (c_ba : @LT.lt Nat _ A.bd A.ba) (c_bv : @LT.lt Nat _ A.ba A.bv) (c_e0 : @LT.lt Nat _ A.bv A.e0) (c_b0 : @LT.lt Nat _ A.e0 A.b0) (c_e1 : @LT.lt Nat _ A.b0 A.e1) (c_b1 : @LT.lt Nat _ A.e1 A.b1) (c_bl : @LT.lt Nat _ A.b1 A.bl) (c_f0 : @LT.lt Nat _ A.bl A.f0) (c_l0 : @LT.lt Nat _ A.f0 A.l0) (c_v0 : @LT.lt Nat _ A.l0 A.v0) (c_f1 : @LT.lt Nat _ A.v0 A.f1) (c_l1 : @LT.lt Nat _ A.f1 A.l1) (c_v1 : @LT.lt Nat _ A.l1 A.v1) (c_z0 : @LT.lt Nat _ A.v1 A.z0) (c_s0 : @LT.lt Nat _ A.z0 A.s0) (c_z1 : @LT.lt Nat _ A.s0 A.z1) (c_s1 : @LT.lt Nat _ A.z1 A.s1) (c_z2 : @LT.lt Nat _ A.s1 A.z2) (c_s2 : @LT.lt Nat _ A.z2 A.s2) (c_sd : @LT.lt Nat _ A.s2 A.sd) (c_sk : @LT.lt Nat _ A.sd A.sk) (c_sr : @LT.lt Nat _ A.sk A.sr) (c_rw : @LT.lt Nat _ A.sr A.rw) (c_kp : @LT.lt Nat _ A.rw A.kp)
    (d_sl1 : @Ne Nat A.sl A.ce) (d_sl2 : @Ne Nat A.sl A.se) (d_sl3 : @Ne Nat A.sl A.wd) (d_sl4 : @Ne Nat A.sl A.dd) (d_sl5 : @Ne Nat A.sl A.v0) (d_sl6 : @Ne Nat A.sl A.v1) (d_sl7 : @LT.lt Nat _ A.sl A.sd)
    (m_wo : (A.wo, instObj 826 A.wd) ∈ nx) (m_va : (A.va, instObj 281 A.vd) ∈ nx) (m_vd : (A.vd, dictOf [en w "defaults" (A.tk 10) (.ref A.dd), en w "automatic" (A.tk 11) (.ref A.au), en w "permanent" (A.tk 12) (.ref A.pe)] 3) ∈ nx) (m_ba : (A.ba, instObj 337 A.bd) ∈ nx) (m_bd : (A.bd, dictOf [en w "values" (A.tk 13) (.ref A.bv)] 1) ∈ nx) (m_bl : (A.bl, W.listOf #[.ref A.b0, .ref A.b1] (A.c 0)) ∈ nx) (m_b0 : (A.b0, instObj 702 A.e0) ∈ nx) (m_l0 : (A.l0, instObj 337 A.f0) ∈ nx) (m_f0 : (A.f0, dictOf [en w "values" (A.tk 14) (.ref A.v0)] 1) ∈ nx) (m_b1 : (A.b1, instObj 702 A.e1) ∈ nx) (m_l1 : (A.l1, instObj 337 A.f1) ∈ nx) (m_f1 : (A.f1, dictOf [en w "values" (A.tk 15) (.ref A.v1)] 1) ∈ nx) (m_sl : (A.sl, W.listOf #[.ref A.s0, .ref A.s1, .ref A.s2] (A.c 1)) ∈ nx) (m_sk : (A.sk, instObj 435 A.sd) ∈ nx) (m_sd : (A.sd, dictOf [en w "world" (A.tk 32) (.ref A.wo), en w "rows" (A.tk 33) (.ref A.sr)] 2) ∈ nx) (m_dk : (A.dk, W.listOf #[.ref A.ce, .ref A.se] (A.c 2)) ∈ nx) (m_ob : (A.ob, instObj 777 A.obd) ∈ nx) (m_obd : (A.obd, dictOf [en w "rows" (A.tk 40) (.ref A.orw), en w "names" (A.tk 41) (.ref A.onm)] 2) ∈ nx) (m_s0 : (A.s0, instObj 58 A.z0) ∈ nx) (m_z0 : (A.z0, dictOf [en w "number" (A.tk 20) (.int 2 (A.tk 21)), en w "name" (A.tk 22) (.str (Str.ofString "a") (A.tk 23))] 2) ∈ nx) (m_s1 : (A.s1, instObj 58 A.z1) ∈ nx) (m_z1 : (A.z1, dictOf [en w "number" (A.tk 24) (.int 3 (A.tk 25)), en w "name" (A.tk 26) (.str (Str.ofString "b") (A.tk 27))] 2) ∈ nx) (m_s2 : (A.s2, instObj 58 A.z2) ∈ nx) (m_z2 : (A.z2, dictOf [en w "number" (A.tk 28) (.int 4 (A.tk 29)), en w "name" (A.tk 30) (.str (Str.ofString "c") (A.tk 31))] 2) ∈ nx)
    (m_e0 : ∃ es n, (A.e0, dictOf es n) ∈ nx ∧ getL (Str.ofString "locals") es = some (some (.ref A.l0))) (m_e1 : ∃ es n, (A.e1, dictOf es n) ∈ nx ∧ getL (Str.ofString "locals") es = some (some (.ref A.l1)))
    (m_au : ∃ o, (A.au, o) ∈ nx ∧ IT w o []) (m_bv : ∃ o, (A.bv, o) ∈ nx ∧ IT w o []) (m_orw : ∃ (vs : List Value) (c : Nat), (A.orw, W.listOf vs.toArray c) ∈ nx ∧ vs.length ≤ 10)
    (m_onm : ∃ o kvs, (A.onm, o) ∈ nx ∧ o.IsDictOf (PySem.strKind PP w) kvs ∧ kvs.length ≤ 10 ∧ nokey kvs (Str.ofString ":key"))
    (lo1 : (A.onm == sysModules) = false) (lo2 : (A.dd == sysModules) = false ∧ (A.au == sysModules) = false ∧ (A.bv == sysModules) = false ∧ (A.v0 == sysModules) = false ∧ (A.v1 == sysModules) = false ∧ (A.rw == sysModules) = false)
    (m_wd : (A.wd, dictOf (wE w A .none) 7) ∈ nx) (m_dd : ∃ o, (A.dd, o) ∈ nx ∧ IT w o []) (m_v0 : ∃ o, (A.v0, o) ∈ nx ∧ IT w o []) (m_v1 : ∃ o, (A.v1, o) ∈ nx ∧ IT w o []) (m_rw : ∃ o, (A.rw, o) ∈ nx ∧ o.IsDictOf (intKind PP w) [])
    (m_kp : ∃ c, (A.kp, W.listOf #[] c) ∈ nx) (m_sr : ∃ c, (A.sr, W.listOf #[] c) ∈ nx)
    (m_ce : ∃ (ys : List Value) (cells : List Int) (c1 : Nat), (A.ce, W.listOf ys.toArray c1) ∈ nx ∧ IntsAre ys cells ∧ (∀ c ∈ cells, (0:Int) ≤ c ∧ c < 10 ^ 24) ∧ cells.length ≤ 10)
    (m_se : ∃ sv t c2, (A.se, W.listOf #[.int sv t] c2) ∈ nx ∧ 0 ≤ sv ∧ sv < 3000000) : Rep w A σ₀ nx := by
  have ps : ∀ (a : Addr) (o : Obj), (a, o) ∈ nx → a ∉ A.muts → PS A nx a o := fun a o h1 h2 => ⟨h1, h2, fun q => by rw [hoff] at q; cases q⟩
  have S : A.ord.Pairwise (· < ·) := pw_cons c_se (pw_cons c_dk (pw_cons c_wd (pw_cons c_wo (pw_cons c_obd (pw_cons c_ob (pw_cons c_orw (pw_cons c_onm (pw_cons c_vd (pw_cons c_va (pw_cons c_dd (pw_cons c_au (pw_cons c_bd (pw_cons c_ba (pw_cons c_bv (pw_cons c_e0 (pw_cons c_b0 (pw_cons c_e1 (pw_cons c_b1 (pw_cons c_bl (pw_cons c_f0 (pw_cons c_l0 (pw_cons c_v0 (pw_cons c_f1 (pw_cons c_l1 (pw_cons c_v1 (pw_cons c_z0 (pw_cons c_s0 (pw_cons c_z1 (pw_cons c_s1 (pw_cons c_z2 (pw_cons c_s2 (pw_cons c_sd (pw_cons c_sk (pw_cons c_sr (pw_cons c_rw (pw_cons c_kp (List.pairwise_singleton _ _)))))))))))))))))))))))))))))))))))))
  have n_dk : A.dk ∉ A.muts := notM_at (i := 2) S rfl (by decide)
  have n_wo : A.wo ∉ A.muts := notM_at (i := 4) S rfl (by decide)
  have n_obd : A.obd ∉ A.muts := notM_at (i := 5) S rfl (by decide)
  have n_ob : A.ob ∉ A.muts := notM_at (i := 6) S rfl (by decide)
  have n_orw : A.orw ∉ A.muts := notM_at (i := 7) S rfl (by decide)
  have n_onm : A.onm ∉ A.muts := notM_at (i := 8) S rfl (by decide)
  have n_vd : A.vd ∉ A.muts := notM_at (i := 9) S rfl (by decide)
  have n_va : A.va ∉ A.muts := notM_at (i := 10) S rfl (by decide)
  have n_au : A.au ∉ A.muts := notM_at (i := 12) S rfl (by decide)
  have n_bd : A.bd ∉ A.muts := notM_at (i := 13) S rfl (by decide)
  have n_ba : A.ba ∉ A.muts := notM_at (i := 14) S rfl (by decide)
  have n_bv : A.bv ∉ A.muts := notM_at (i := 15) S rfl (by decide)
  have n_e0 : A.e0 ∉ A.muts := notM_at (i := 16) S rfl (by decide)
  have n_b0 : A.b0 ∉ A.muts := notM_at (i := 17) S rfl (by decide)
  have n_e1 : A.e1 ∉ A.muts := notM_at (i := 18) S rfl (by decide)
  have n_b1 : A.b1 ∉ A.muts := notM_at (i := 19) S rfl (by decide)
  have n_bl : A.bl ∉ A.muts := notM_at (i := 20) S rfl (by decide)
  have n_f0 : A.f0 ∉ A.muts := notM_at (i := 21) S rfl (by decide)
  have n_l0 : A.l0 ∉ A.muts := notM_at (i := 22) S rfl (by decide)
  have n_f1 : A.f1 ∉ A.muts := notM_at (i := 24) S rfl (by decide)
  have n_l1 : A.l1 ∉ A.muts := notM_at (i := 25) S rfl (by decide)
  have n_z0 : A.z0 ∉ A.muts := notM_at (i := 27) S rfl (by decide)
  have n_s0 : A.s0 ∉ A.muts := notM_at (i := 28) S rfl (by decide)
  have n_z1 : A.z1 ∉ A.muts := notM_at (i := 29) S rfl (by decide)
  have n_s1 : A.s1 ∉ A.muts := notM_at (i := 30) S rfl (by decide)
  have n_z2 : A.z2 ∉ A.muts := notM_at (i := 31) S rfl (by decide)
  have n_s2 : A.s2 ∉ A.muts := notM_at (i := 32) S rfl (by decide)
  have n_sd : A.sd ∉ A.muts := notM_at (i := 33) S rfl (by decide)
  have n_sk : A.sk ∉ A.muts := notM_at (i := 34) S rfl (by decide)
  have n_sl : A.sl ∉ A.muts := notM d_sl1 d_sl2 d_sl3 d_sl4 d_sl5 d_sl6 (Nat.ne_of_lt (Nat.lt_trans d_sl7 (ord_lt S (i := 33) (j := 35) (by decide) rfl rfl))) (Nat.ne_of_lt (Nat.lt_trans d_sl7 (ord_lt S (i := 33) (j := 36) (by decide) rfl rfl))) (Nat.ne_of_lt (Nat.lt_trans d_sl7 (ord_lt S (i := 33) (j := 37) (by decide) rfl rfl)))
  have st : Stat w A (PS A nx) := {
    wo := ps _ _ m_wo n_wo
    va := ps _ _ m_va n_va
    vd := ps _ _ m_vd n_vd
    ba := ps _ _ m_ba n_ba
    bd := ps _ _ m_bd n_bd
    bl := ps _ _ m_bl n_bl
    b0 := ps _ _ m_b0 n_b0
    l0 := ps _ _ m_l0 n_l0
    f0 := ps _ _ m_f0 n_f0
    b1 := ps _ _ m_b1 n_b1
    l1 := ps _ _ m_l1 n_l1
    f1 := ps _ _ m_f1 n_f1
    sl := ps _ _ m_sl n_sl
    sk := ps _ _ m_sk n_sk
    sd := ps _ _ m_sd n_sd
    dk := ps _ _ m_dk n_dk
    ob := ps _ _ m_ob n_ob
    obd := ps _ _ m_obd n_obd
    s0 := ps _ _ m_s0 n_s0
    z0 := ps _ _ m_z0 n_z0
    s1 := ps _ _ m_s1 n_s1
    z1 := ps _ _ m_z1 n_z1
    s2 := ps _ _ m_s2 n_s2
    z2 := ps _ _ m_z2 n_z2
    au := let ⟨o, a, b⟩ := m_au; ⟨o, ps _ _ a n_au, b⟩
    bv := let ⟨o, a, b⟩ := m_bv; ⟨o, ps _ _ a n_bv, b⟩
    e0 := let ⟨es, n, a, b⟩ := m_e0; ⟨es, n, ps _ _ a n_e0, b⟩
    e1 := let ⟨es, n, a, b⟩ := m_e1; ⟨es, n, ps _ _ a n_e1, b⟩
    orw := let ⟨vs, c, a, b⟩ := m_orw; ⟨vs, c, ps _ _ a n_orw, b⟩
    onm := let ⟨o, kvs, a, b⟩ := m_onm; ⟨o, kvs, ps _ _ a n_onm, b⟩
    lowo := ⟨lo1, ord_ne S (i := 8) (j := 7) (by decide) rfl rfl, ⟨ord_ne S (i := 4) (j := 8) (by decide) rfl rfl, ord_ne S (i := 4) (j := 7) (by decide) rfl rfl⟩, ⟨ord_ne S (i := 6) (j := 8) (by decide) rfl rfl, ord_ne S (i := 6) (j := 7) (by decide) rfl rfl⟩, ⟨ord_ne S (i := 5) (j := 8) (by decide) rfl rfl, ord_ne S (i := 5) (j := 7) (by decide) rfl rfl⟩, ⟨ord_ne S (i := 34) (j := 8) (by decide) rfl rfl, ord_ne S (i := 34) (j := 7) (by decide) rfl rfl⟩, ⟨ord_ne S (i := 33) (j := 8) (by decide) rfl rfl, ord_ne S (i := 33) (j := 7) (by decide) rfl rfl⟩⟩
    lows := lo2 }
  have sub : A.muts.Sublist A.ord := .cons₂ _ (.cons₂ _ (.cons _ (.cons₂ _ (.cons _ (.cons _ (.cons _ (.cons _ (.cons _ (.cons _ (.cons _ (.cons₂ _ (.cons _ (.cons _ (.cons _ (.cons _ (.cons _ (.cons _ (.cons _ (.cons _ (.cons _ (.cons _ (.cons _ (.cons₂ _ (.cons _ (.cons _ (.cons₂ _ (.cons _ (.cons _ (.cons _ (.cons _ (.cons _ (.cons _ (.cons _ (.cons _ (.cons₂ _ (.cons₂ _ (.cons₂ _ (.slnil))))))))))))))))))))))))))))))))))))))
  have nd : A.muts.Nodup := (S.sublist sub).imp fun h => Nat.ne_of_lt h
  refine ⟨nd, fun a _ q => (by rw [hoff] at q; cases q), fun a q => (by rw [hoff] at q; cases q), st, m_wd, m_dd, m_v0, m_v1, ?_, ?_, ?_, m_ce, m_se⟩
  · obtain ⟨o, a, b⟩ := m_rw; exact ⟨o, a, RowsO.nil b⟩
  · obtain ⟨c, a⟩ := m_kp; exact ⟨[], c, a, .nil⟩
  · obtain ⟨c, a⟩ := m_sr; exact ⟨[], c, a, .nil⟩
/-- what _law_all tells of one symbol -/
noncomputable def rowD (σ : Si) (k : Int) : List PyData := [(Spec.lookup (.int k) σ.Dd).getD .none, valIn σ.Dd σ.D0 k, valIn σ.Dd σ.D1 k]
noncomputable def allD (σ : Si) : Nat → List PyData
  | 0 => []
  | n + 1 => allD σ n ++ rowD σ ((n : Int) + 2)
theorem allD_len (σ : Si) : ∀ n, (allD σ n).length = 3 * n
  | 0 => rfl
  | n + 1 => by rw [allD, List.length_append, allD_len σ n]; simp only [rowD, List.length_cons, List.length_nil]; omega
/-- what _law_rows tells of one name -/
noncomputable def valR (R : List (PyData × PyData)) (b k : Int) : PyData := match Spec.lookup (encTuple encO [some b, some k]) R with
  | some d => d
  | none => (Spec.lookup (encTuple encO [none, some k]) R).getD .none
noncomputable def defR (R : List (PyData × PyData)) (k : Int) : PyData := (Spec.lookup (encTuple encO [none, some k]) R).getD .none
theorem valR_some {R : List (PyData × PyData)} {b k : Int} {d : PyData} (h : Spec.lookup (encTuple encO [some b, some k]) R = some d) : valR R b k = d := by unfold valR; rw [h]
theorem valR_none {R : List (PyData × PyData)} {b k : Int} (h : Spec.lookup (encTuple encO [some b, some k]) R = none) : valR R b k = defR R k := by unfold valR; rw [h]; rfl
noncomputable def rowR (R : List (PyData × PyData)) (k : Int) : List PyData := [defR R k, valR R 0 k, valR R 1 k]
noncomputable def rowsD (R : List (PyData × PyData)) : Nat → List PyData
  | 0 => []
  | n + 1 => rowsD R n ++ rowR R (n : Int)
theorem rowsD_len (R : List (PyData × PyData)) : ∀ n, (rowsD R n).length = 3 * n
  | 0 => rfl
  | n + 1 => by rw [rowsD, List.length_append, rowsD_len R n]; simp only [rowR, List.length_cons, List.length_nil]; omega
/-- what own() gives -/
noncomputable def ownV (A : Ad) : Option Int → Value
  | none => .ref A.ba
  | some i => if i = 0 then .ref A.l0 else .ref A.l1
noncomputable def curOk : Option Int → Prop
  | none => True
  | some i => i = 0 ∨ i = 1
noncomputable def Si.own (σ : Si) : Option Int → List (PyData × PyData)
  | none => []
  | some i => if i = 0 then σ.D0 else σ.D1
noncomputable def Si.setD (σ : Si) (c : Option Int) (k : Int) (d : PyData) : Si := match c with
  | none => { σ with Dd := PyProof.V.putD (.int k) d σ.Dd }
  | some i => if i = 0 then { σ with D0 := PyProof.V.putD (.int k) d σ.D0 } else { σ with D1 := PyProof.V.putD (.int k) d σ.D1 }
noncomputable def Si.getD (σ : Si) (c : Option Int) (k : Int) : PyData := match c with
  | none => (Spec.lookup (.int k) σ.Dd).getD .none
  | some i => (Spec.lookup (.int k) (σ.own (some i))).getD .none
/-- where a variable stands -/
noncomputable def Si.at (σ : Si) (k : Int) : Option Int := if (Spec.lookup (.int k) (σ.own σ.cur)).isSome = true then σ.cur else none
noncomputable def symA (A : Ad) (n : Int) : Addr := if n = 0 then A.s0 else if n = 1 then A.s1 else A.s2
theorem symA_at {w : World} {A : Ad} {P : Addr → Obj → Prop} (S : Stat w A P) {n : Int} (hn : n = 0 ∨ n = 1 ∨ n = 2) : ∃ z t1 t2 t3 t4 nm, P (symA A n) (instObj 58 z) ∧ P z (dictOf [en w "number" t1 (.int (n + 2) t2), en w "name" t3 (.str nm t4)] 2) := by
  rcases hn with rfl | rfl | rfl
  · exact ⟨_, _, _, _, _, _, S.s0, S.z0⟩
  · exact ⟨_, _, _, _, _, _, S.s1, S.z1⟩
  · exact ⟨_, _, _, _, _, _, S.s2, S.z2⟩
/-- make_local at buffer b -/
noncomputable def Si.mk1 (σ : Si) (b k : Int) : Si := if (Spec.lookup (.int k) (σ.own (some b))).isSome = true then σ else σ.setD (some b) k (σ.getD none k)
noncomputable def Si.setOwn (σ : Si) (b : Int) (D : List (PyData × PyData)) : Si := if b = 0 then { σ with D0 := D } else { σ with D1 := D }
/-- a binding taken back -/
noncomputable def Si.back (σ : Si) (c : Option Int) (k : Int) (d : PyData) : Si := match c with
  | none => σ.setD none k d
  | some b => if (Spec.lookup (.int k) (σ.own (some b))).isSome = true then σ.setD (some b) k d else σ
/-- a binding taken back, by its row -/
noncomputable def Si.bk (σ : Si) (k : (Option Int × Int) × PyData) : Si := σ.back k.1.1 (k.1.2 + 2) k.2
/-- the same by the plain rows -/
noncomputable def bkR (R : List (PyData × PyData)) (k : (Option Int × Int) × PyData) : List (PyData × PyData) :=
  if k.1.1 = none ∨ (Spec.lookup (encTuple encO [k.1.1, some k.1.2]) R).isSome = true then PyProof.V.putD (encTuple encO [k.1.1, some k.1.2]) k.2 R else R
/-- no dict is over long -/
noncomputable def Si.Fits (σ : Si) (n : Nat) : Prop := σ.Dd.length ≤ n ∧ σ.D0.length ≤ n ∧ σ.D1.length ≤ n ∧ σ.R.length ≤ n ∧ σ.K.length ≤ n ∧ σ.S.length ≤ n
theorem Si.Fits.mono {σ : Si} {a b : Nat} (h : σ.Fits a) (k : a ≤ b) : σ.Fits b := ⟨Nat.le_trans h.1 k, Nat.le_trans h.2.1 k, Nat.le_trans h.2.2.1 k, Nat.le_trans h.2.2.2.1 k, Nat.le_trans h.2.2.2.2.1 k, Nat.le_trans h.2.2.2.2.2 k⟩
theorem Si.setD_S (σ : Si) (c : Option Int) (k : Int) (d : PyData) : (σ.setD c k d).S = σ.S := by
  unfold Si.setD; split
  · rfl
  · split <;> rfl
theorem Si.setD_K (σ : Si) (c : Option Int) (k : Int) (d : PyData) : (σ.setD c k d).K = σ.K := by
  unfold Si.setD; split
  · rfl
  · split <;> rfl
theorem Si.setD_R (σ : Si) (c : Option Int) (k : Int) (d : PyData) : (σ.setD c k d).R = σ.R := by
  unfold Si.setD; split
  · rfl
  · split <;> rfl
theorem Si.setD_cur (σ : Si) (c : Option Int) (k : Int) (d : PyData) : (σ.setD c k d).cur = σ.cur := by
  unfold Si.setD; split
  · rfl
  · split <;> rfl
theorem Si.Fits.setD {σ : Si} {a : Nat} (h : σ.Fits a) (c : Option Int) (k : Int) (d : PyData) : (σ.setD c k d).Fits (a + 1) := by
  have := h.mono (Nat.le_succ a)
  obtain ⟨h1, h2, h3, h4, h5, h6⟩ := h
  obtain ⟨g1, g2, g3, g4, g5, g6⟩ := this
  unfold Si.setD
  split
  · exact ⟨Nat.le_trans (PyProof.V.putD_length_le ..) (Nat.succ_le_succ h1), g2, g3, g4, g5, g6⟩
  · split
    · exact ⟨g1, Nat.le_trans (PyProof.V.putD_length_le ..) (Nat.succ_le_succ h2), g3, g4, g5, g6⟩
    · exact ⟨g1, g2, Nat.le_trans (PyProof.V.putD_length_le ..) (Nat.succ_le_succ h3), g4, g5, g6⟩
theorem Si.bk_same (σ : Si) (k : (Option Int × Int) × PyData) : (σ.bk k).S = σ.S ∧ (σ.bk k).K = σ.K ∧ (σ.bk k).R = σ.R ∧ (σ.bk k).cur = σ.cur := by
  unfold Si.bk Si.back
  split
  · exact ⟨Si.setD_S .., Si.setD_K .., Si.setD_R .., Si.setD_cur ..⟩
  · split
    · exact ⟨Si.setD_S .., Si.setD_K .., Si.setD_R .., Si.setD_cur ..⟩
    · exact ⟨rfl, rfl, rfl, rfl⟩
theorem Si.bks_same (P : List ((Option Int × Int) × PyData)) : ∀ σ : Si, (P.foldl Si.bk σ).S = σ.S ∧ (P.foldl Si.bk σ).K = σ.K ∧ (P.foldl Si.bk σ).R = σ.R ∧ (P.foldl Si.bk σ).cur = σ.cur := by
  induction P with
  | nil => exact fun _ => ⟨rfl, rfl, rfl, rfl⟩
  | cons k P ih =>
    intro σ
    obtain ⟨a, b, c, d⟩ := ih (σ.bk k)
    obtain ⟨e, f, g, i⟩ := σ.bk_same k
    exact ⟨a.trans e, b.trans f, c.trans g, d.trans i⟩
theorem Si.Fits.bk {σ : Si} {a : Nat} (h : σ.Fits a) (k : (Option Int × Int) × PyData) : (σ.bk k).Fits (a + 1) := by
  unfold Si.bk Si.back
  split
  · exact h.setD ..
  · split
    · exact h.setD ..
    · exact h.mono (Nat.le_succ _)
theorem Si.Fits.bks (P : List ((Option Int × Int) × PyData)) : ∀ {σ : Si} {a : Nat}, σ.Fits a → (P.foldl Si.bk σ).Fits (a + P.length) := by
  induction P with
  | nil => exact fun h => h
  | cons k P ih =>
    intro σ a h
    have := ih (h.bk k)
    rw [List.foldl_cons, List.length_cons]
    exact this.mono (by omega)
theorem Si.Fits.withS {σ : Si} {a : Nat} (h : σ.Fits a) {S : List ((Option Int × Int) × PyData)} (k : S.length ≤ a) : { σ with S := S }.Fits a := ⟨h.1, h.2.1, h.2.2.1, h.2.2.2.1, h.2.2.2.2.1, k⟩
theorem Si.bk_withS (σ : Si) (S : List ((Option Int × Int) × PyData)) (k : (Option Int × Int) × PyData) : ({ σ with S := S } : Si).bk k = { σ.bk k with S := S } := by
  obtain ⟨⟨c, n⟩, d⟩ := k
  unfold Si.bk Si.back
  dsimp only
  match c with
  | none => rfl
  | some b =>
    show (if (Spec.lookup (.int (n + 2)) (σ.own (some b))).isSome = true then ({ σ with S := S } : Si).setD (some b) (n + 2) d else ({ σ with S := S } : Si)) = { (if (Spec.lookup (.int (n + 2)) (σ.own (some b))).isSome = true then σ.setD (some b) (n + 2) d else σ) with S := S }
    split
    · unfold Si.setD
      dsimp only
      split <;> rfl
    · rfl
theorem bkR_len (R : List (PyData × PyData)) (k : (Option Int × Int) × PyData) : (bkR R k).length ≤ R.length + 1 := by
  unfold bkR; split
  · exact PyProof.V.putD_length_le ..
  · exact Nat.le_succ _
theorem bkRs_len (P : List ((Option Int × Int) × PyData)) : ∀ R : List (PyData × PyData), (P.foldl bkR R).length ≤ R.length + P.length := by
  induction P with
  | nil => exact fun _ => Nat.le_refl _
  | cons k P ih =>
    intro R
    have := ih (bkR R k)
    have := bkR_len R k
    rw [List.foldl_cons, List.length_cons]
    omega
theorem Si.Fits.withKR {σ : Si} {a b : Nat} (h : σ.Fits a) (hab : a ≤ b) {K : List ((Option Int × Int) × PyData)} {R : List (PyData × PyData)} (k : K.length ≤ b) (r : R.length ≤ b) : { σ with K := K, R := R }.Fits b :=
  ⟨Nat.le_trans h.1 hab, Nat.le_trans h.2.1 hab, Nat.le_trans h.2.2.1 hab, r, k, Nat.le_trans h.2.2.2.2.2 hab⟩
theorem Rep.new {w : World} {A : Ad} {σ : Si} {nx : List (Addr × Obj)} (R : Rep w A σ nx) {b : Addr} (h : ∀ p ∈ nx, p.1 < b) : b ∉ A.muts ∧ b ∉ A.off :=
  ⟨fun hm => by obtain ⟨o', ho'⟩ := R.there b hm; exact absurd (h _ ho') (Nat.lt_irrefl _), fun hm => by obtain ⟨o', ho'⟩ := R.offin b hm; exact absurd (h _ ho') (Nat.lt_irrefl _)⟩
theorem Rep.statB {w : World} {A : Ad} {σ : Si} {nx : List (Addr × Obj)} (R : Rep w A σ nx) (fp : List Addr) (hf : ∀ a ∈ fp, a ∈ A.muts) : Stat w A (fun a o => (a, o) ∈ butL fp nx) :=
  R.st.mono fun _ _ h => mem_butL.mpr ⟨h.1, fun q => h.2.1 (hf _ q)⟩
end
section
/-- the places, with the loop's iterator apart -/
noncomputable abbrev Ad.at (A : Ad) (I : Addr) : Ad := { A with off := [I] }
theorem Stat.into {w : World} {A : Ad} {I : Addr} {P P' : Addr → Obj → Prop} (S : Stat w A P) (k : ∀ a o, P a o → P' a o) : Stat w (A.at I) P' where
  wo := k _ _ S.wo
  va := k _ _ S.va
  vd := k _ _ S.vd
  au := let ⟨o, a, b⟩ := S.au; ⟨o, k _ _ a, b⟩
  ba := k _ _ S.ba
  bd := k _ _ S.bd
  bv := let ⟨o, a, b⟩ := S.bv; ⟨o, k _ _ a, b⟩
  bl := k _ _ S.bl
  b0 := k _ _ S.b0
  e0 := let ⟨es, n, a, b⟩ := S.e0; ⟨es, n, k _ _ a, b⟩
  l0 := k _ _ S.l0
  f0 := k _ _ S.f0
  b1 := k _ _ S.b1
  e1 := let ⟨es, n, a, b⟩ := S.e1; ⟨es, n, k _ _ a, b⟩
  l1 := k _ _ S.l1
  f1 := k _ _ S.f1
  sl := k _ _ S.sl
  s0 := k _ _ S.s0
  z0 := k _ _ S.z0
  s1 := k _ _ S.s1
  z1 := k _ _ S.z1
  s2 := k _ _ S.s2
  z2 := k _ _ S.z2
  sk := k _ _ S.sk
  sd := k _ _ S.sd
  dk := k _ _ S.dk
  ob := k _ _ S.ob
  obd := k _ _ S.obd
  orw := let ⟨vs, c, a, b⟩ := S.orw; ⟨vs, c, k _ _ a, b⟩
  onm := let ⟨o, kvs, a, b⟩ := S.onm; ⟨o, kvs, k _ _ a, b⟩
  lowo := S.lowo
  lows := S.lows
theorem Stat.out {w : World} {A : Ad} {I : Addr} {P P' : Addr → Obj → Prop} (S : Stat w (A.at I) P) (k : ∀ a o, P a o → P' a o) : Stat w A P' where
  wo := k _ _ S.wo
  va := k _ _ S.va
  vd := k _ _ S.vd
  au := let ⟨o, a, b⟩ := S.au; ⟨o, k _ _ a, b⟩
  ba := k _ _ S.ba
  bd := k _ _ S.bd
  bv := let ⟨o, a, b⟩ := S.bv; ⟨o, k _ _ a, b⟩
  bl := k _ _ S.bl
  b0 := k _ _ S.b0
  e0 := let ⟨es, n, a, b⟩ := S.e0; ⟨es, n, k _ _ a, b⟩
  l0 := k _ _ S.l0
  f0 := k _ _ S.f0
  b1 := k _ _ S.b1
  e1 := let ⟨es, n, a, b⟩ := S.e1; ⟨es, n, k _ _ a, b⟩
  l1 := k _ _ S.l1
  f1 := k _ _ S.f1
  sl := k _ _ S.sl
  s0 := k _ _ S.s0
  z0 := k _ _ S.z0
  s1 := k _ _ S.s1
  z1 := k _ _ S.z1
  s2 := k _ _ S.s2
  z2 := k _ _ S.z2
  sk := k _ _ S.sk
  sd := k _ _ S.sd
  dk := k _ _ S.dk
  ob := k _ _ S.ob
  obd := k _ _ S.obd
  orw := let ⟨vs, c, a, b⟩ := S.orw; ⟨vs, c, k _ _ a, b⟩
  onm := let ⟨o, kvs, a, b⟩ := S.onm; ⟨o, kvs, k _ _ a, b⟩
  lowo := S.lowo
  lows := S.lows
theorem PS.into {A : Ad} {I : Addr} {it : Obj} {nx : List (Addr × Obj)} (hI : ∀ p ∈ nx, p.1 ≠ I) (a : Addr) (o : Obj) (h : PS A nx a o) : PS (A.at I) ((I, it) :: nx) a o :=
  ⟨.tail _ h.1, h.2.1, fun q => hI _ h.1 (List.mem_singleton.mp q)⟩
theorem PS.out {A : Ad} {I : Addr} {nx : List (Addr × Obj)} (h0 : A.off = []) (a : Addr) (o : Obj) (h : PS (A.at I) nx a o) : PS A (butL [I] nx) a o :=
  ⟨mem_butL.mpr ⟨h.1, h.2.2⟩, h.2.1, fun q => by rw [h0] at q; cases q⟩
theorem Rep.into {w : World} {A : Ad} {σ : Si} {I : Addr} {it : Obj} {nx : List (Addr × Obj)} (R : Rep w A σ nx) (hI : ∀ p ∈ nx, p.1 ≠ I) : Rep w (A.at I) σ ((I, it) :: nx) where
  nd := R.nd
  moff := fun a ha q => by
    rw [List.mem_singleton.mp q] at ha
    obtain ⟨o, ho⟩ := R.there I ha
    exact hI _ ho rfl
  offin := fun a ha => ⟨it, by rw [List.mem_singleton.mp ha]; exact .head _⟩
  st := R.st.into (PS.into hI)
  wd := .tail _ R.wd
  dd := let ⟨o, a, b⟩ := R.dd; ⟨o, .tail _ a, b⟩
  v0 := let ⟨o, a, b⟩ := R.v0; ⟨o, .tail _ a, b⟩
  v1 := let ⟨o, a, b⟩ := R.v1; ⟨o, .tail _ a, b⟩
  rw := let ⟨o, a, b⟩ := R.rw; ⟨o, .tail _ a, b.mono fun p hp => PS.into hI _ _ hp⟩
  kp := let ⟨vs, c, a, b⟩ := R.kp; ⟨vs, c, .tail _ a, b.mono fun _ _ q => q.mono (PS.into hI)⟩
  sr := let ⟨vs, c, a, b⟩ := R.sr; ⟨vs, c, .tail _ a, b.mono fun _ _ q => BoundV.mono (A := A) q (PS.into hI)⟩
  ce := let ⟨ys, cells, c1, a, b⟩ := R.ce; ⟨ys, cells, c1, .tail _ a, b⟩
  se := let ⟨sv, t, c2, a, b⟩ := R.se; ⟨sv, t, c2, .tail _ a, b⟩
theorem Rep.out {w : World} {A : Ad} {σ : Si} {I : Addr} {nx : List (Addr × Obj)} (R : Rep w (A.at I) σ nx) (h0 : A.off = []) : Rep w A σ (butL [I] nx) := by
  have ni : ∀ a ∈ A.muts, a ∉ [I] := fun a ha q => R.moff a ha q
  have m : ∀ {a : Addr} {o : Obj}, a ∈ A.muts → (a, o) ∈ nx → (a, o) ∈ butL [I] nx := fun ha h => mem_butL.mpr ⟨h, ni _ ha⟩
  exact {
    nd := R.nd
    moff := fun a _ q => by rw [h0] at q; cases q
    offin := fun a q => by rw [h0] at q; cases q
    st := R.st.out (PS.out h0)
    wd := m (by simp [Ad.muts]) R.wd
    dd := let ⟨o, a, b⟩ := R.dd; ⟨o, m (by simp [Ad.muts]) a, b⟩
    v0 := let ⟨o, a, b⟩ := R.v0; ⟨o, m (by simp [Ad.muts]) a, b⟩
    v1 := let ⟨o, a, b⟩ := R.v1; ⟨o, m (by simp [Ad.muts]) a, b⟩
    rw := let ⟨o, a, b⟩ := R.rw; ⟨o, m (by simp [Ad.muts]) a, b.mono fun p hp => PS.out h0 _ _ hp⟩
    kp := let ⟨vs, c, a, b⟩ := R.kp; ⟨vs, c, m (by simp [Ad.muts]) a, b.mono fun _ _ q => q.mono (PS.out h0)⟩
    sr := let ⟨vs, c, a, b⟩ := R.sr; ⟨vs, c, m (by simp [Ad.muts]) a, b.mono fun _ _ q => BoundV.mono (A := A) q (PS.out h0)⟩
    ce := let ⟨ys, cells, c1, a, b⟩ := R.ce; ⟨ys, cells, c1, m (by simp [Ad.muts]) a, b⟩
    se := let ⟨sv, t, c2, a, b⟩ := R.se; ⟨sv, t, c2, m (by simp [Ad.muts]) a, b⟩ }
/-- what the law's own frame leans on besides -/
structure Kp (B : Ad) (I : Addr) (it : Obj) (c : Addr) (oc : Obj) (nx : List (Addr × Obj)) : Prop where
  it : (I, it) ∈ nx
  nI : I ∉ B.muts
  cell : PS B nx c oc
theorem Kp.ext {B : Ad} {I : Addr} {it : Obj} {c : Addr} {oc : Obj} {nx nx' : List (Addr × Obj)} (k : Kp B I it c oc nx) (x : Ext B nx nx') : Kp B I it c oc nx' := ⟨x _ k.it k.nI, k.nI, x.ps _ _ k.cell⟩
theorem Kp.cellm {B : Ad} {I : Addr} {it : Obj} {c : Addr} {oc : Obj} {nx : List (Addr × Obj)} (k : Kp B I it c oc nx) : (c, oc) ∈ nx := k.cell.1
theorem PS.memE {A : Ad} {nx : List (Addr × Obj)} {a : Addr} {o : Obj} (h : PS A nx a o) : (a, o) ∈ nx := h.1
noncomputable def psA {A : Ad} {nx : List (Addr × Obj)} {a : Addr} {o : Obj} (_ : PS A nx a o) : Addr := a
noncomputable def psO {A : Ad} {nx : List (Addr × Obj)} {a : Addr} {o : Obj} (_ : PS A nx a o) : Obj := o
section
open PySem.Calls
variable {w : World} {AA : Around} {h₀ : Heap} {L : Addr} {s : Shared} {E : Value → Shared → Prop} {nx : List (Addr × Obj)} {A : Ad} {σ : Si}
theorem sym_item {value slice : PySem.Expr} {n : Int} {t : Tok} {Q : Value → Shared → Prop} (N : News h₀ L s.heap nx) (R : Rep w A σ nx) (hn : n = 0 ∨ n = 1 ∨ n = 2) (h : Q (.ref (symA A n)) s)
    (hs : subscripted slice false (.ref A.sl) (.int n t) = operate [.ref A.sl, .int n t] (getItem (.ref A.sl) (.int n t)) := by with_unfolding_all rfl) (hg : ∀ r, letTemporaryGo value (.ref A.sl) r = pure () := by intro _; with_unfolding_all rfl) :
    wpAny (model PP w) AA (subscriptTail value slice (.ref A.sl) (.int n t)) Q E s := by
  have hl : s.heap.IsList A.sl #[.ref A.s0, .ref A.s1, .ref A.s2] := ⟨_, (N _ R.st.sl.1).1, rfl, _, rfl⟩
  rcases hn with rfl | rfl | rfl
  · exact item_list hl (by decide) (by decide) rfl h hs hg
  · exact item_list hl (by decide) (by decide) rfl h hs hg
  · exact item_list hl (by decide) (by decide) rfl h hs hg
theorem buf_item {value slice : PySem.Expr} {n : Int} {t : Tok} {Q : Value → Shared → Prop} (N : News h₀ L s.heap nx) (R : Rep w A σ nx) (hn : n = 0 ∨ n = 1) (h : Q (curV A (some n)) s)
    (hs : subscripted slice false (.ref A.bl) (.int n t) = operate [.ref A.bl, .int n t] (getItem (.ref A.bl) (.int n t)) := by with_unfolding_all rfl) (hg : ∀ r, letTemporaryGo value (.ref A.bl) r = pure () := by intro _; with_unfolding_all rfl) :
    wpAny (model PP w) AA (subscriptTail value slice (.ref A.bl) (.int n t)) Q E s := by
  have hl : s.heap.IsList A.bl #[.ref A.b0, .ref A.b1] := ⟨_, (N _ R.st.bl.1).1, rfl, _, rfl⟩
  rcases hn with rfl | rfl
  · exact item_list hl (by decide) (by decide) rfl h hs hg
  · exact item_list hl (by decide) (by decide) rfl h hs hg
end
/-- the law's plain rows and the project's dicts tell the same -/
noncomputable def isV (d : PyData) : Prop := d = .none ∨ ∃ i, d = .int i
structure Agree (i : Nat) (σ : Si) : Prop where
  cur : curOk σ.cur
  ks : σ.K = σ.S
  kl : σ.K.length ≤ i
  fits : σ.Fits (10 * i)
  kc : ∀ k ∈ σ.K, curOk k.1.1 ∧ (k.1.2 = 0 ∨ k.1.2 = 1 ∨ k.1.2 = 2)
  g : ∀ n : Int, (n = 0 ∨ n = 1 ∨ n = 2) → (Spec.lookup (.int (n + 2)) σ.Dd).getD .none = (Spec.lookup (encTuple encO [none, some n]) σ.R).getD .none
  l : ∀ b : Int, (b = 0 ∨ b = 1) → ∀ n : Int, (n = 0 ∨ n = 1 ∨ n = 2) → Spec.lookup (.int (n + 2)) (σ.own (some b)) = Spec.lookup (encTuple encO [some b, some n]) σ.R
/-- all that is held is None or an int -/
structure Held (σ : Si) : Prop where
  dd : ∀ (k : Int) d, Spec.lookup (.int k) σ.Dd = some d → isV d
  d0 : ∀ (k : Int) d, Spec.lookup (.int k) σ.D0 = some d → isV d
  d1 : ∀ (k : Int) d, Spec.lookup (.int k) σ.D1 = some d → isV d
  r : ∀ (k : List (Option Int)) d, Spec.lookup (encTuple encO k) σ.R = some d → isV d
  k : ∀ p ∈ σ.K, isV p.2
noncomputable def nCur : Str := Str.ofString "current"
noncomputable def nPl : Str := Str.ofString "place"
noncomputable def nDe : Str := Str.ofString "depth"
/-- what a turn's arm leaves -/
noncomputable def ArmPost (w : World) (B : Ad) (I : Addr) (it : Obj) (c : Addr) (oc : Obj) (i : Nat) (h₀ : Heap) (L : Addr) (m : Str → Option Value) (s : Shared) (f : Flow) (s₂ : Shared) : Prop :=
  f = .next ∧ ∃ (h' : Heap) (tk' : Nat) (nx' : List (Addr × Obj)) (σ' : Si) (c' : Value) (u : Str → Option Value), s₂ = { s with heap := h', toks := tk' } ∧ Fr h₀ L h' (fun y => if y = Str.ofString "current" then some c' else if y = Str.ofString "place" then u y else if y = Str.ofString "depth" then u y else m y) ∧ News h₀ L h' nx' ∧
    Rep w B σ' nx' ∧ Kp B I it c oc nx' ∧ Agree (i + 1) σ' ∧ Held σ' ∧ isOpt σ'.cur c' = true
theorem armMap (m m' : Str → Option Value) (c : Value) (hc : m' (Str.ofString "current") = some c) (hz : ∀ y, y ≠ Str.ofString "current" → y ≠ Str.ofString "place" → y ≠ Str.ofString "depth" → m' y = m y) :
    m' = fun y => if y = Str.ofString "current" then some c else if y = Str.ofString "place" then m' y else if y = Str.ofString "depth" then m' y else m y := by
  funext y
  by_cases h1 : y = Str.ofString "current"
  · subst h1; simp [hc]
  · by_cases h2 : y = Str.ofString "place"
    · subst h2; simp [h1]
    · by_cases h3 : y = Str.ofString "depth"
      · subst h3; simp [h1, h2]
      · simp only [if_neg h1, if_neg h2, if_neg h3]; exact hz y h1 h2 h3
theorem ArmPost.intro {w : World} {B : Ad} {I : Addr} {it : Obj} {c : Addr} {oc : Obj} {i : Nat} {h₀ h' : Heap} {L : Addr} {m m' : Str → Option Value} {s : Shared} {tk' : Nat} {nx' : List (Addr × Obj)} {σ' : Si} {c' : Value}
    (F : Fr h₀ L h' m') (N : News h₀ L h' nx') (R : Rep w B σ' nx') (K : Kp B I it c oc nx') (G : Agree (i + 1) σ') (H : Held σ') (hi : isOpt σ'.cur c' = true) (hc : m' (Str.ofString "current") = some c')
    (hz : ∀ y, y ≠ Str.ofString "current" → y ≠ Str.ofString "place" → y ≠ Str.ofString "depth" → m' y = m y) : ArmPost w B I it c oc i h₀ L m s .next { s with heap := h', toks := tk' } :=
  ⟨rfl, h', tk', nx', σ', c', m', rfl, by rw [armMap m m' c' hc hz] at F; exact F, N, R, K, G, H, hi⟩
theorem arm_cut {M : Model} {AA : Around} {t : Sem Flow} {w : World} {B : Ad} {I : Addr} {it : Obj} {c : Addr} {oc : Obj} {i : Nat} {h₀ : Heap} {L : Addr} {m : Str → Option Value} {s : Shared} {Q : Flow → Shared → Prop} {E : Value → Shared → Prop}
    (F : Fr h₀ L s.heap m) (arm : wpAny M AA t (ArmPost w B I it c oc i h₀ L m s) E s)
    (rest : ∀ (h' : Heap) (tk' : Nat) (nx' : List (Addr × Obj)) (σ' : Si) (c' : Value) (u : Str → Option Value), Fr h₀ L h' (fun y => if y = Str.ofString "current" then some c' else if y = Str.ofString "place" then u y else if y = Str.ofString "depth" then u y else m y) → News h₀ L h' nx' → Rep w B σ' nx' → Kp B I it c oc nx' → Agree (i + 1) σ' → Held σ' → isOpt σ'.cur c' = true →
      Q .next { s with heap := h', toks := tk' }) : wpAny M AA t Q E s := by
  refine wpAny_mono arm (fun f s₂ h => ?_) fun _ _ e => e
  obtain ⟨rfl, h', tk', nx', σ', c', u, rfl, F', N', R', K', G', H', hi⟩ := h
  exact rest h' tk' nx' σ' c' u F' N' R' K' G' H' hi
end
section
open PySem.Spec PyProof.V
theorem lkI (a b : Int) (d : PyData) (D : List (PyData × PyData)) : Spec.lookup (.int a) (putD (.int b) d D) = if a = b then some d else Spec.lookup (.int a) D := by
  by_cases e : a = b
  · subst e; rw [if_pos rfl, lookup_putD_same]
  · rw [if_neg e, lookup_putD_other e]
theorem lkR (a b : List (Option Int)) (d : PyData) (D : List (PyData × PyData)) : Spec.lookup (encTuple encO a) (putD (encTuple encO b) d D) = if a = b then some d else Spec.lookup (encTuple encO a) D := by
  by_cases e : a = b
  · subst e; rw [if_pos rfl, lookup_putK_same (keyEnc_tuple keyEnc_O)]
  · rw [if_neg e, lookup_putK_other (keyEnc_tuple keyEnc_O) e]
noncomputable def isN (n : Int) : Prop := n = 0 ∨ n = 1 ∨ n = 2
structure Core (σ : Si) : Prop where
  g : ∀ n : Int, isN n → (Spec.lookup (.int (n + 2)) σ.Dd).getD .none = (Spec.lookup (encTuple encO [none, some n]) σ.R).getD .none
  l : ∀ b : Int, (b = 0 ∨ b = 1) → ∀ n : Int, isN n → Spec.lookup (.int (n + 2)) (σ.own (some b)) = Spec.lookup (encTuple encO [some b, some n]) σ.R
theorem Core.of {σ τ : Si} (C : Core σ) (h1 : τ.Dd = σ.Dd) (h2 : τ.D0 = σ.D0) (h3 : τ.D1 = σ.D1) (h4 : τ.R = σ.R) : Core τ :=
  ⟨fun n hn => by rw [h1, h4]; exact C.g n hn, fun b hb n hn => by
    have := C.l b hb n hn
    unfold Si.own at this ⊢
    rw [h2, h3, h4]; exact this⟩
theorem own_setD (σ : Si) (b : Int) (hb : b = 0 ∨ b = 1) (c : Option Int) (hc : curOk c) (k : Int) (d : PyData) : (σ.setD c k d).own (some b) = if c = some b then putD (.int k) d (σ.own (some b)) else σ.own (some b) := by
  match c, hc with
  | none, _ => rw [if_neg (by simp)]; rfl
  | some x, hx =>
    rcases hx with rfl | rfl <;> rcases hb with rfl | rfl <;> simp [Si.setD, Si.own]
theorem dd_setD (σ : Si) (c : Option Int) (k : Int) (d : PyData) : (σ.setD c k d).Dd = if c = none then putD (.int k) d σ.Dd else σ.Dd := by
  match c with
  | none => rw [if_pos rfl]; rfl
  | some x =>
    rw [if_neg (by simp)]
    unfold Si.setD
    dsimp only
    split <;> rfl
theorem Core.set {σ : Si} (C : Core σ) {c : Option Int} (hc : curOk c) {n : Int} (_hn : isN n) (d : PyData) : Core { σ.setD c (n + 2) d with R := putD (encTuple encO [c, some n]) d σ.R } := by
  constructor
  · intro m hm
    show (Spec.lookup (.int (m + 2)) (σ.setD c (n + 2) d).Dd).getD .none = (Spec.lookup (encTuple encO [none, some m]) (putD (encTuple encO [c, some n]) d σ.R)).getD .none
    rw [dd_setD, lkR]
    by_cases e : c = none
    · subst e
      rw [if_pos rfl, lkI]
      by_cases e2 : m = n
      · subst e2; simp
      · have e3 : ¬ m + 2 = n + 2 := by omega
        rw [if_neg e3, if_neg (by simpa using e2)]
        exact C.g m hm
    · rw [if_neg e, if_neg (by intro q; injection q with q; exact e q.symm)]
      exact C.g m hm
  · intro b hb m hm
    show Spec.lookup (.int (m + 2)) ((σ.setD c (n + 2) d).own (some b)) = Spec.lookup (encTuple encO [some b, some m]) (putD (encTuple encO [c, some n]) d σ.R)
    rw [own_setD σ b hb c hc, lkR]
    by_cases e : c = some b
    · subst e
      rw [if_pos rfl, lkI]
      by_cases e2 : m = n
      · subst e2; simp
      · have e3 : ¬ m + 2 = n + 2 := by omega
        rw [if_neg e3, if_neg (by simpa using e2)]
        exact C.l b hb m hm
    · rw [if_neg e, if_neg (by intro q; injection q with q; exact e q.symm)]
      exact C.l b hb m hm
theorem Core.bk {σ : Si} (C : Core σ) {k : (Option Int × Int) × PyData} (hc : curOk k.1.1) (hn : isN k.1.2) : Core { σ.bk k with R := bkR σ.R k } := by
  obtain ⟨⟨c, n⟩, d⟩ := k
  dsimp only at hc hn
  have S := C.set hc hn d
  match c, hc with
  | none, _ =>
    have e : bkR σ.R ((none, n), d) = putD (encTuple encO [none, some n]) d σ.R := if_pos (.inl rfl)
    rw [e]
    exact S
  | some b, hb =>
    have hl := C.l b hb n hn
    by_cases q : (Spec.lookup (.int (n + 2)) (σ.own (some b))).isSome = true
    · have e : bkR σ.R ((some b, n), d) = putD (encTuple encO [some b, some n]) d σ.R := if_pos (.inr (by rw [← hl]; exact q))
      have e2 : σ.bk ((some b, n), d) = σ.setD (some b) (n + 2) d := if_pos q
      rw [e, e2]
      exact S
    · have e : bkR σ.R ((some b, n), d) = σ.R := if_neg (fun x => x.elim (fun x => nomatch x) (fun x => q (by rw [hl]; exact x)))
      have e2 : σ.bk ((some b, n), d) = σ := if_neg q
      rw [e, e2]
      exact C
theorem bk_withR (σ : Si) (X : List (PyData × PyData)) (k : (Option Int × Int) × PyData) : ({ σ with R := X } : Si).bk k = { σ.bk k with R := X } := by
  obtain ⟨⟨c, n⟩, d⟩ := k
  unfold Si.bk Si.back
  dsimp only
  match c with
  | none => rfl
  | some b =>
    show (if (Spec.lookup (.int (n + 2)) (σ.own (some b))).isSome = true then ({ σ with R := X } : Si).setD (some b) (n + 2) d else ({ σ with R := X } : Si)) = { (if (Spec.lookup (.int (n + 2)) (σ.own (some b))).isSome = true then σ.setD (some b) (n + 2) d else σ) with R := X }
    split
    · unfold Si.setD
      dsimp only
      split <;> rfl
    · rfl
theorem bks_withR (P : List ((Option Int × Int) × PyData)) : ∀ (σ : Si) (X : List (PyData × PyData)), P.foldl Si.bk { σ with R := X } = { P.foldl Si.bk σ with R := X } := by
  induction P with
  | nil => exact fun _ _ => rfl
  | cons k P ih => intro σ X; rw [List.foldl_cons, List.foldl_cons, bk_withR, ih]
theorem Core.bks (P : List ((Option Int × Int) × PyData)) : ∀ {σ : Si}, Core σ → (∀ k ∈ P, curOk k.1.1 ∧ isN k.1.2) → Core { P.foldl Si.bk σ with R := P.foldl bkR σ.R } := by
  induction P with
  | nil => exact fun C _ => C
  | cons k P ih =>
    intro σ C hP
    have C1 := C.bk (hP k (.head _)).1 (hP k (.head _)).2
    have C2 := ih C1 fun q hq => hP q (.tail _ hq)
    rw [bks_withR] at C2
    exact C2
theorem bk_D (k : (Option Int × Int) × PyData) (τ σ : Si) (e1 : τ.Dd = σ.Dd) (e2 : τ.D0 = σ.D0) (e3 : τ.D1 = σ.D1) : (τ.bk k).Dd = (σ.bk k).Dd ∧ (τ.bk k).D0 = (σ.bk k).D0 ∧ (τ.bk k).D1 = (σ.bk k).D1 := by
  obtain ⟨c1, Dd, D0, D1, R1, K1, S1⟩ := τ
  obtain ⟨c2, Dd', D0', D1', R2, K2, S2⟩ := σ
  dsimp only at e1 e2 e3
  subst e1 e2 e3
  obtain ⟨⟨c, n⟩, d⟩ := k
  unfold Si.bk Si.back
  dsimp only
  match c with
  | none => exact ⟨rfl, rfl, rfl⟩
  | some b =>
    have e : Si.own ⟨c1, Dd, D0, D1, R1, K1, S1⟩ (some b) = Si.own ⟨c2, Dd, D0, D1, R2, K2, S2⟩ (some b) := rfl
    dsimp only
    rw [e]
    split
    · unfold Si.setD
      dsimp only
      split <;> exact ⟨rfl, rfl, rfl⟩
    · exact ⟨rfl, rfl, rfl⟩
theorem bks_D (P : List ((Option Int × Int) × PyData)) : ∀ (τ σ : Si), τ.Dd = σ.Dd → τ.D0 = σ.D0 → τ.D1 = σ.D1 → (P.foldl Si.bk τ).Dd = (P.foldl Si.bk σ).Dd ∧ (P.foldl Si.bk τ).D0 = (P.foldl Si.bk σ).D0 ∧ (P.foldl Si.bk τ).D1 = (P.foldl Si.bk σ).D1 := by
  induction P with
  | nil => exact fun _ _ a b c => ⟨a, b, c⟩
  | cons k P ih =>
    intro τ σ a b c
    obtain ⟨x, y, z⟩ := bk_D k τ σ a b c
    exact ih _ _ x y z
theorem bks_fits (P : List ((Option Int × Int) × PyData)) {σ : Si} {a : Nat} (h : σ.Fits a) : (P.foldl Si.bk σ).Fits (a + P.length) := h.bks P
/-- both readings tell the same -/
theorem Core.rows {σ : Si} (C : Core σ) : ∀ n, n ≤ 3 → allD σ n = rowsD σ.R n
  | 0, _ => rfl
  | n + 1, h => by
    rw [allD, rowsD, C.rows n (by omega)]
    congr 1
    have hn : isN (n : Int) := by unfold isN; omega
    have hg := C.g n hn
    have h0 := C.l 0 (.inl rfl) n hn
    have h1 := C.l 1 (.inr rfl) n hn
    have h0' : Spec.lookup (.int ((n : Int) + 2)) σ.D0 = Spec.lookup (encTuple encO [some 0, some (n : Int)]) σ.R := h0
    have h1' : Spec.lookup (.int ((n : Int) + 2)) σ.D1 = Spec.lookup (encTuple encO [some 1, some (n : Int)]) σ.R := h1
    unfold rowD rowR
    have e1 : valIn σ.Dd σ.D0 ((n : Int) + 2) = valR σ.R 0 n := by unfold valIn valR; rw [h0', hg]; try rfl
    have e2 : valIn σ.Dd σ.D1 ((n : Int) + 2) = valR σ.R 1 n := by unfold valIn valR; rw [h1', hg]; try rfl
    rw [e1, e2, hg]; try rfl
theorem Agree.core {i : Nat} {σ : Si} (G : Agree i σ) : Core σ := ⟨G.g, G.l⟩
theorem Agree.later {i : Nat} {σ : Si} (G : Agree i σ) : Agree (i + 1) σ := ⟨G.cur, G.ks, Nat.le_succ_of_le G.kl, G.fits.mono (by omega), G.kc, G.g, G.l⟩
theorem Agree.go {i : Nat} {σ : Si} (G : Agree i σ) {c : Int} (hc : c = 0 ∨ c = 1) : Agree (i + 1) { σ with cur := some c } := ⟨hc, G.ks, Nat.le_succ_of_le G.kl, G.fits.mono (by omega), G.kc, G.g, G.l⟩
theorem Held.go {σ : Si} (H : Held σ) {c : Option Int} : Held { σ with cur := c } := ⟨H.dd, H.d0, H.d1, H.r, H.k⟩
theorem Si.Fits.withK {σ : Si} {a : Nat} (h : σ.Fits a) (d : PyData) (k : Option Int × Int) : ({ σ with K := σ.K ++ [(k, d)] } : Si).Fits (a + 1) := by
  have h' := h.mono (Nat.le_succ a)
  exact ⟨h'.1, h'.2.1, h'.2.2.1, h'.2.2.2.1, by show (σ.K ++ [(k, d)]).length ≤ a + 1; rw [List.length_append]; exact Nat.succ_le_succ h.2.2.2.2.1, h'.2.2.2.2.2⟩
theorem Si.Fits.withR {σ : Si} {a : Nat} (h : σ.Fits a) (k d : PyData) : ({ σ with R := putD k d σ.R } : Si).Fits (a + 1) := by
  have h' := h.mono (Nat.le_succ a)
  exact ⟨h'.1, h'.2.1, h'.2.2.1, Nat.le_trans (putD_length_le ..) (Nat.succ_le_succ h.2.2.2.1), h'.2.2.2.2⟩
theorem at_pl {i : Nat} {σ : Si} (G : Agree i σ) {n : Int} (hn : isN n) : σ.at (n + 2) = if (Spec.lookup (encTuple encO [σ.cur, some n]) σ.R).isSome = true then σ.cur else none := by
  have hc := G.cur
  unfold Si.at
  generalize hcu : σ.cur = c at hc
  match c, hc with
  | none, _ => simp [Si.own, Spec.lookup]
  | some b, hb => rw [G.l b hb n hn]
theorem at_ok {i : Nat} {σ : Si} (G : Agree i σ) (k : Int) : curOk (σ.at k) := by
  unfold Si.at
  split
  · exact G.cur
  · trivial
theorem Agree.arm1 {i : Nat} {σ : Si} (G : Agree i σ) {n : Int} (hn : isN n) (d : PyData) {pl : Option Int} (hp : pl = if (Spec.lookup (encTuple encO [σ.cur, some n]) (σ.setD (σ.at (n + 2)) (n + 2) d).R).isSome = true then σ.cur else none) :
    Agree (i + 1) { σ.setD (σ.at (n + 2)) (n + 2) d with R := putD (encTuple encO [pl, some n]) d (σ.setD (σ.at (n + 2)) (n + 2) d).R } := by
  rw [Si.setD_R] at hp ⊢
  rw [← at_pl G hn] at hp
  subst hp
  have C := G.core.set (at_ok G (n + 2)) hn d
  have F := ((G.fits.setD (σ.at (n + 2)) (n + 2) d).withR (encTuple encO [σ.at (n + 2), some n]) d)
  rw [Si.setD_R] at F
  refine ⟨?_, ?_, ?_, F.mono (by omega), ?_, C.g, C.l⟩
  · show curOk (Si.setD _ _ _ _).cur; rw [Si.setD_cur]; exact G.cur
  · show (Si.setD _ _ _ _).K = (Si.setD _ _ _ _).S; rw [Si.setD_K, Si.setD_S]; exact G.ks
  · show (Si.setD _ _ _ _).K.length ≤ _; rw [Si.setD_K]; exact Nat.le_succ_of_le G.kl
  · show ∀ k ∈ (Si.setD _ _ _ _).K, _; rw [Si.setD_K]; exact G.kc
theorem Held.setD {σ : Si} (H : Held σ) {d : PyData} (hd : isV d) (c : Option Int) (k : Int) : Held (σ.setD c k d) := by
  have put : ∀ D : List (PyData × PyData), (∀ (j : Int) e, Spec.lookup (.int j) D = some e → isV e) → ∀ (j : Int) e, Spec.lookup (.int j) (putD (.int k) d D) = some e → isV e := fun D hD j e h => by
    rw [lkI] at h
    split at h
    · injection h with h; exact h ▸ hd
    · exact hD j e h
  match c with
  | none => exact ⟨put _ H.dd, H.d0, H.d1, H.r, H.k⟩
  | some x =>
    by_cases e : x = 0
    · subst e; exact ⟨H.dd, put _ H.d0, H.d1, H.r, H.k⟩
    · have : σ.setD (some x) k d = { σ with D1 := putD (.int k) d σ.D1 } := if_neg e
      rw [this]
      exact ⟨H.dd, H.d0, put _ H.d1, H.r, H.k⟩
theorem Held.withR {σ : Si} (H : Held σ) {d : PyData} (hd : isV d) (k : List (Option Int)) : Held { σ with R := putD (encTuple encO k) d σ.R } :=
  ⟨H.dd, H.d0, H.d1, fun j e h => by
    rw [lkR] at h
    split at h
    · injection h with h; exact h ▸ hd
    · exact H.r j e h, H.k⟩
theorem Held.arm1 {σ : Si} (H : Held σ) {d : PyData} (hd : isV d) {n : Int} {pl : Option Int} : Held { σ.setD (σ.at (n + 2)) (n + 2) d with R := putD (encTuple encO [pl, some n]) d (σ.setD (σ.at (n + 2)) (n + 2) d).R } :=
  (H.setD hd _ _).withR hd _
theorem isV_getD {o : Option PyData} (h : ∀ d, o = some d → isV d) : isV (o.getD .none) := by
  cases o with
  | none => exact .inl rfl
  | some d => exact h d rfl
theorem Held.defR {σ : Si} (H : Held σ) (k : Int) : isV (Mine.defR σ.R k) := isV_getD fun d h => H.r _ d h
theorem Held.valR {σ : Si} (H : Held σ) (b k : Int) : isV (Mine.valR σ.R b k) := by
  unfold Mine.valR
  split
  · rename_i d h; exact H.r _ d h
  · exact isV_getD fun d h => H.r _ d h
theorem Held.rows {σ : Si} (H : Held σ) : ∀ n, ∀ d ∈ rowsD σ.R n, isV d
  | 0, d, h => by cases h
  | n + 1, d, h => by
    rw [rowsD] at h
    rcases List.mem_append.mp h with h | h
    · exact H.rows n d h
    · unfold rowR at h
      simp only [List.mem_cons, List.not_mem_nil, or_false] at h
      rcases h with rfl | rfl | rfl
      · exact H.defR _
      · exact H.valR _ _
      · exact H.valR _ _
noncomputable def toDat : PyData → Dat
  | .int i => .int i
  | _ => .none
theorem datAll_of {vs : List Value} {ds : List PyData} (F : KTD.Flats vs ds) (hv : ∀ d ∈ ds, isV d) : DatAll [] vs (ds.map toDat) := by
  induction F with
  | nil => exact .nil
  | cons f _ ih =>
    refine .cons ?_ (ih fun d hd => hv d (.tail _ hd))
    rcases hv _ (.head _) with e | ⟨i, e⟩
    · subst e; rw [Flat.none_inv f]; exact .none
    · subst e; obtain ⟨t, e⟩ := Flat.int_inv f; rw [e]; exact .int _ _
theorem cmp_ne {w : World} {AA : Around} {E : Value → Shared → Prop} {s : Shared} {h₀ : Heap} {L a b : Addr} {news : List (Addr × Obj)} {vs ys : List Value} {ds : List PyData} {n n' : Nat} {Q : Value → Shared → Prop}
    (N : News h₀ L s.heap news) (ma : (a, W.listOf vs.toArray n) ∈ news) (mb : (b, W.listOf ys.toArray n') ∈ news) (Fa : KTD.Flats vs ds) (Fb : KTD.Flats ys ds) (hv : ∀ d ∈ ds, isV d) (hu : AA.units + 64 < cLine) (h : Q (.bool false) s) :
    wpAny (model PP w) AA (compareOp .NotEq (.ref a) (.ref b)) Q E s := by
  have ok : ∀ d ∈ ds.map toDat, kqdOk 8 d = true := fun d hd => by
    obtain ⟨x, hx, rfl⟩ := List.mem_map.mp hd
    rcases hv x hx with e | ⟨i, e⟩ <;> (subst e; rfl)
  refine kqd_ne N ma rfl rfl (datAll_of Fa hv) (fun p hp => (nomatch hp)) mb rfl rfl (datAll_of Fb hv) (fun p hp => (nomatch hp)) ok ok hu ?_
  have q : ∀ i : Decidable (ds.map toDat = ds.map toDat), (!@decide _ i) = false := fun i => by
    cases i with
    | isTrue _ => rfl
    | isFalse h => exact absurd rfl h
  rw [q]; exact h
theorem Agree.start : Agree 0 σ₀ := ⟨trivial, rfl, Nat.le_refl _, ⟨Nat.le_refl _, Nat.le_refl _, Nat.le_refl _, Nat.le_refl _, Nat.le_refl _, Nat.le_refl _⟩, fun _ h => (nomatch h), fun _ _ => rfl, fun b hb _ _ => by rcases hb with rfl | rfl <;> rfl⟩
theorem Held.start : Held σ₀ := ⟨fun _ _ h => (nomatch h), fun _ _ h => (nomatch h), fun _ _ h => (nomatch h), fun _ _ h => (nomatch h), fun _ h => (nomatch h)⟩
theorem Si.mk1_cur (σ : Si) (b k : Int) : (σ.mk1 b k).cur = σ.cur := by
  unfold Si.mk1; split
  · rfl
  · exact Si.setD_cur ..
theorem Agree.fits7 {i : Nat} {σ : Si} (G : Agree i σ) (hi : i ≤ 9) (d : Nat) : ({ σ with K := σ.K.take d, R := (σ.K.drop d).reverse.foldl bkR σ.R } : Si).Fits 100 := by
  have F := G.fits
  have kl := G.kl
  have h1 := bkRs_len (σ.K.drop d).reverse σ.R
  have h2 : (σ.K.drop d).reverse.length ≤ σ.K.length := by rw [List.length_reverse, List.length_drop]; omega
  have h3 := F.2.2.2.1
  exact Si.Fits.withKR F (by omega) (by rw [List.length_take]; omega) (by omega)
theorem Agree.arm7 {i : Nat} {σ : Si} (G : Agree i σ) (hi : i ≤ 9) (d : Nat) : Agree (i + 1) { (σ.S.drop d).reverse.foldl Si.bk { σ with K := σ.K.take d, R := (σ.K.drop d).reverse.foldl bkR σ.R } with S := σ.S.take d } := by
  have kl := G.kl
  have ks := G.ks
  have hP : ∀ k ∈ (σ.K.drop d).reverse, curOk k.1.1 ∧ isN k.1.2 := fun k hk => G.kc k (List.mem_of_mem_drop (List.mem_reverse.mp hk))
  have C := Core.bks (σ.K.drop d).reverse G.core hP
  rw [show σ.S.drop d = σ.K.drop d by rw [ks], show σ.S.take d = σ.K.take d by rw [ks]]
  generalize hPe : (σ.K.drop d).reverse = P at *
  have hPl : P.length ≤ i := by rw [← hPe, List.length_reverse, List.length_drop]; omega
  obtain ⟨b1, b2, b3, b4⟩ := Si.bks_same P { σ with K := σ.K.take d, R := P.foldl bkR σ.R }
  have hR := bkRs_len P σ.R
  have F0 : ({ σ with K := σ.K.take d, R := P.foldl bkR σ.R } : Si).Fits (10 * i + i) := by
    have h3 := G.fits.2.2.2.1
    exact Si.Fits.withKR G.fits (by omega) (by rw [List.length_take]; omega) (by omega)
  have hD : ∀ τ : Si, τ.Dd = σ.Dd → τ.D0 = σ.D0 → τ.D1 = σ.D1 → (P.foldl Si.bk τ).Dd = (P.foldl Si.bk σ).Dd ∧ (P.foldl Si.bk τ).D0 = (P.foldl Si.bk σ).D0 ∧ (P.foldl Si.bk τ).D1 = (P.foldl Si.bk σ).D1 := fun τ e1 e2 e3 => bks_D P τ σ e1 e2 e3
  obtain ⟨e1, e2, e3⟩ := hD { σ with K := σ.K.take d, R := P.foldl bkR σ.R } rfl rfl rfl
  have C' : Core { P.foldl Si.bk { σ with K := σ.K.take d, R := P.foldl bkR σ.R } with S := σ.K.take d } := C.of e1 e2 e3 b3
  have F1 := bks_fits P F0
  refine ⟨?_, ?_, ?_, ?_, ?_, C'.g, C'.l⟩
  · show curOk (P.foldl Si.bk _).cur; rw [b4]; exact G.cur
  · exact b2
  · show (P.foldl Si.bk _).K.length ≤ _; rw [b2]; show (σ.K.take d).length ≤ _; rw [List.length_take]; omega
  · have Fσ := bks_fits P G.fits
    refine ⟨?_, ?_, ?_, ?_, ?_, ?_⟩
    · show (P.foldl Si.bk _).Dd.length ≤ _; rw [e1]; have := Fσ.1; omega
    · show (P.foldl Si.bk _).D0.length ≤ _; rw [e2]; have := Fσ.2.1; omega
    · show (P.foldl Si.bk _).D1.length ≤ _; rw [e3]; have := Fσ.2.2.1; omega
    · show (P.foldl Si.bk _).R.length ≤ _; rw [b3]; show (P.foldl bkR σ.R).length ≤ _; have := G.fits.2.2.2.1; omega
    · show (P.foldl Si.bk _).K.length ≤ _; rw [b2]; show (σ.K.take d).length ≤ _; rw [List.length_take]; omega
    · show (σ.K.take d).length ≤ _; rw [List.length_take]; omega
  · show ∀ k ∈ (P.foldl Si.bk _).K, _; rw [b2]; exact fun k hk => G.kc k (List.mem_of_mem_take hk)
theorem Held.bk {σ : Si} (H : Held σ) {k : (Option Int × Int) × PyData} (hk : isV k.2) : Held (σ.bk k) := by
  obtain ⟨⟨c, n⟩, d⟩ := k
  unfold Si.bk Si.back
  split
  · exact H.setD hk _ _
  · split
    · exact H.setD hk _ _
    · exact H
theorem Held.bks (P : List ((Option Int × Int) × PyData)) : ∀ {σ : Si}, Held σ → (∀ k ∈ P, isV k.2) → Held (P.foldl Si.bk σ) := by
  induction P with
  | nil => exact fun H _ => H
  | cons k P ih => exact fun H hP => ih (H.bk (hP k (.head _))) fun q hq => hP q (.tail _ hq)
theorem Held.bkRs (P : List ((Option Int × Int) × PyData)) : ∀ {σ : Si}, Held σ → (∀ k ∈ P, isV k.2) → Held { σ with R := P.foldl bkR σ.R } := by
  induction P with
  | nil => exact fun H _ => H
  | cons k P ih =>
    intro σ H hP
    have H1 : Held { σ with R := bkR σ.R k } := by
      unfold bkR; split
      · exact H.withR (hP k (.head _)) _
      · exact H
    exact ih H1 fun q hq => hP q (.tail _ hq)
theorem Held.arm7 {i : Nat} {σ : Si} (H : Held σ) (G : Agree i σ) (d : Nat) : Held { (σ.S.drop d).reverse.foldl Si.bk { σ with K := σ.K.take d, R := (σ.K.drop d).reverse.foldl bkR σ.R } with S := σ.S.take d } := by
  have ks := G.ks
  rw [show σ.S.drop d = σ.K.drop d by rw [ks], show σ.S.take d = σ.K.take d by rw [ks]]
  have hP : ∀ k ∈ (σ.K.drop d).reverse, isV k.2 := fun k hk => H.k k (List.mem_of_mem_drop (List.mem_reverse.mp hk))
  have H1 := Held.bkRs _ H hP
  have H2 : Held { σ with K := σ.K.take d, R := (σ.K.drop d).reverse.foldl bkR σ.R } := ⟨H1.dd, H1.d0, H1.d1, H1.r, fun k hk => H.k k (List.mem_of_mem_take hk)⟩
  have H3 := Held.bks _ H2 hP
  exact ⟨H3.dd, H3.d0, H3.d1, H3.r, H3.k⟩
/-- the state behind arm 2 -/
noncomputable def τ2 (σ : Si) (n : Int) (pl : Option Int) (d : PyData) : Si := { σ with K := σ.K ++ [((pl, n), (Spec.lookup (encTuple encO [pl, some n]) σ.R).getD .none)], R := putD (encTuple encO [pl, some n]) d σ.R }
theorem setD_D (τ σ : Si) (e1 : τ.Dd = σ.Dd) (e2 : τ.D0 = σ.D0) (e3 : τ.D1 = σ.D1) (c : Option Int) (k : Int) (d : PyData) : (τ.setD c k d).Dd = (σ.setD c k d).Dd ∧ (τ.setD c k d).D0 = (σ.setD c k d).D0 ∧ (τ.setD c k d).D1 = (σ.setD c k d).D1 := by
  obtain ⟨c1, Dd, D0, D1, R1, K1, S1⟩ := τ
  obtain ⟨c2, Dd', D0', D1', R2, K2, S2⟩ := σ
  dsimp only at e1 e2 e3
  subst e1 e2 e3
  unfold Si.setD
  match c with
  | none => exact ⟨rfl, rfl, rfl⟩
  | some x =>
    dsimp only
    split <;> exact ⟨rfl, rfl, rfl⟩
theorem getD_same {i : Nat} {σ : Si} (G : Agree i σ) {n : Int} (hn : isN n) {c : Option Int} (hc : curOk c) : σ.getD c (n + 2) = (Spec.lookup (encTuple encO [c, some n]) σ.R).getD .none := by
  match c, hc with
  | none, _ => exact G.g n hn
  | some b, hb =>
    show (Spec.lookup (.int (n + 2)) (σ.own (some b))).getD .none = _
    rw [G.l b hb n hn]
theorem Agree.arm2 {i : Nat} {σ : Si} (G : Agree i σ) {n : Int} (hn : isN n) (d : PyData) {pl : Option Int} (hp : pl = if (Spec.lookup (encTuple encO [σ.cur, some n]) σ.R).isSome = true then σ.cur else none) :
    Agree (i + 1) { (τ2 σ n pl d).setD ((τ2 σ n pl d).at (n + 2)) (n + 2) d with S := (τ2 σ n pl d).S ++ [(((τ2 σ n pl d).at (n + 2), n), (τ2 σ n pl d).getD ((τ2 σ n pl d).at (n + 2)) (n + 2))] } := by
  rw [← at_pl G hn] at hp
  have hown : ∀ c, (τ2 σ n pl d).own c = σ.own c := fun c => by cases c <;> rfl
  have hat : (τ2 σ n pl d).at (n + 2) = pl := by
    refine Eq.trans ?_ hp.symm
    unfold Si.at
    rw [hown]; rfl
  have hgd : ∀ c k, (τ2 σ n pl d).getD c k = σ.getD c k := fun c k => by cases c <;> rfl
  have hpl : curOk pl := by rw [hp]; exact at_ok G _
  rw [hat, hgd, getD_same G hn hpl]
  have C := G.core.set hpl hn d
  obtain ⟨e1, e2, e3⟩ := setD_D (τ2 σ n pl d) σ rfl rfl rfl pl (n + 2) d
  have C' : Core { (τ2 σ n pl d).setD pl (n + 2) d with S := (τ2 σ n pl d).S ++ [((pl, n), (Spec.lookup (encTuple encO [pl, some n]) σ.R).getD .none)] } := C.of e1 e2 e3 (Si.setD_R ..)
  have F := ((G.fits.withK ((Spec.lookup (encTuple encO [pl, some n]) σ.R).getD .none) (pl, n)).withR (encTuple encO [pl, some n]) d).setD pl (n + 2) d
  refine ⟨?_, ?_, ?_, ?_, ?_, C'.g, C'.l⟩
  · show curOk (Si.setD _ _ _ _).cur; rw [Si.setD_cur]; exact G.cur
  · show (Si.setD _ _ _ _).K = _; rw [Si.setD_K]; show σ.K ++ _ = σ.S ++ _; rw [G.ks]
  · show (Si.setD _ _ _ _).K.length ≤ _; rw [Si.setD_K]; show (σ.K ++ _).length ≤ _; rw [List.length_append]; exact Nat.succ_le_succ G.kl
  · have F1 := F.mono (show 10 * i + 1 + 1 + 1 ≤ 10 * (i + 1) by omega)
    refine ⟨F1.1, F1.2.1, F1.2.2.1, F1.2.2.2.1, F1.2.2.2.2.1, ?_⟩
    show (σ.S ++ [_]).length ≤ _
    rw [List.length_append, ← G.ks]
    have := G.kl
    simp only [List.length_cons, List.length_nil]; omega
  · show ∀ k ∈ (Si.setD _ _ _ _).K, _
    rw [Si.setD_K]
    intro k hk
    rcases List.mem_append.mp hk with hk | hk
    · exact G.kc k hk
    · rw [List.mem_singleton.mp hk]; exact ⟨hpl, hn⟩
theorem Held.getV {σ : Si} (H : Held σ) (pl : Option Int) (n : Int) : isV ((Spec.lookup (encTuple encO [pl, some n]) σ.R).getD .none) := isV_getD fun d h => H.r _ d h
theorem Held.arm2 {σ : Si} (H : Held σ) {d : PyData} (hd : isV d) (n : Int) (pl : Option Int) :
    Held { (τ2 σ n pl d).setD ((τ2 σ n pl d).at (n + 2)) (n + 2) d with S := (τ2 σ n pl d).S ++ [(((τ2 σ n pl d).at (n + 2), n), (τ2 σ n pl d).getD ((τ2 σ n pl d).at (n + 2)) (n + 2))] } := by
  have H1 : Held { σ with K := σ.K ++ [((pl, n), (Spec.lookup (encTuple encO [pl, some n]) σ.R).getD .none)] } := ⟨H.dd, H.d0, H.d1, H.r, fun k hk => by
    rcases List.mem_append.mp hk with hk | hk
    · exact H.k k hk
    · rw [List.mem_singleton.mp hk]; exact H.getV pl n⟩
  have H2 : Held (τ2 σ n pl d) := H1.withR hd _
  have H3 := H2.setD hd ((τ2 σ n pl d).at (n + 2)) (n + 2)
  exact ⟨H3.dd, H3.d0, H3.d1, H3.r, H3.k⟩
theorem own_setOwn (σ : Si) (b c : Int) (hb : b = 0 ∨ b = 1) (hc : c = 0 ∨ c = 1) (D : List (PyData × PyData)) : (σ.setOwn b D).own (some c) = if c = b then D else σ.own (some c) := by
  rcases hb with rfl | rfl <;> rcases hc with rfl | rfl <;> simp [Si.setOwn, Si.own]
theorem setOwn_same (σ : Si) (b : Int) (D : List (PyData × PyData)) : (σ.setOwn b D).Dd = σ.Dd ∧ (σ.setOwn b D).R = σ.R ∧ (σ.setOwn b D).K = σ.K ∧ (σ.setOwn b D).S = σ.S ∧ (σ.setOwn b D).cur = σ.cur := by
  unfold Si.setOwn; split <;> exact ⟨rfl, rfl, rfl, rfl, rfl⟩
theorem Agree.arm6 {i : Nat} {σ : Si} (G : Agree i σ) {n b : Int} (_hn : isN n) (hb : b = 0 ∨ b = 1) (_ec : σ.cur = some b) {D6 D7 : List (PyData × PyData)} (hl6 : D6.length ≤ σ.R.length)
    (hk6 : ∀ ks', Spec.lookup (encTuple encO ks') D6 = if ks' = [some b, some n] then none else Spec.lookup (encTuple encO ks') σ.R) (hl7 : D7.length ≤ (Si.own { σ with R := D6 } (some b)).length)
    (hk7 : ∀ k', Spec.lookup (.int k') D7 = if k' = n + 2 then none else Spec.lookup (.int k') (Si.own { σ with R := D6 } (some b))) : Agree (i + 1) (Si.setOwn { σ with R := D6 } b D7) := by
  obtain ⟨s1, s2, s3, s4, s5⟩ := setOwn_same { σ with R := D6 } b D7
  refine ⟨?_, ?_, ?_, ?_, ?_, ?_, ?_⟩
  · rw [s5]; exact G.cur
  · rw [s3, s4]; exact G.ks
  · rw [s3]; exact Nat.le_succ_of_le G.kl
  · have F := G.fits.mono (show 10 * i ≤ 10 * (i + 1) by omega)
    rcases hb with rfl | rfl
    · exact ⟨F.1, Nat.le_trans hl7 F.2.1, F.2.2.1, Nat.le_trans hl6 F.2.2.2.1, F.2.2.2.2.1, F.2.2.2.2.2⟩
    · exact ⟨F.1, F.2.1, Nat.le_trans hl7 F.2.2.1, Nat.le_trans hl6 F.2.2.2.1, F.2.2.2.2.1, F.2.2.2.2.2⟩
  · rw [s3]; exact G.kc
  · intro m hm
    rw [s1, s2]
    show _ = (Spec.lookup (encTuple encO [none, some m]) D6).getD .none
    rw [hk6, if_neg (by intro q; injection q with q; cases q)]
    exact G.g m hm
  · intro c hc m hm
    rw [s2, own_setOwn _ b c hb hc]
    show _ = Spec.lookup (encTuple encO [some c, some m]) D6
    rw [hk6]
    by_cases e : c = b
    · subst e
      rw [if_pos rfl, hk7]
      by_cases e2 : m = n
      · subst e2; simp
      · have e3 : ¬ m + 2 = n + 2 := by omega
        rw [if_neg e3, if_neg (by simpa using e2)]
        exact G.l c hc m hm
    · rw [if_neg e, if_neg (by intro q; injection q with q; injection q with q; exact e q)]
      exact G.l c hc m hm
theorem Held.arm6 {σ : Si} (H : Held σ) {n b : Int} {D6 D7 : List (PyData × PyData)}
    (hk6 : ∀ ks', Spec.lookup (encTuple encO ks') D6 = if ks' = [some b, some n] then none else Spec.lookup (encTuple encO ks') σ.R)
    (hk7 : ∀ k', Spec.lookup (.int k') D7 = if k' = n + 2 then none else Spec.lookup (.int k') (Si.own { σ with R := D6 } (some b))) (hb : b = 0 ∨ b = 1) : Held (Si.setOwn { σ with R := D6 } b D7) := by
  have r6 : ∀ (k : List (Option Int)) d, Spec.lookup (encTuple encO k) D6 = some d → isV d := fun k d h => by
    rw [hk6] at h
    split at h
    · cases h
    · exact H.r k d h
  rcases hb with rfl | rfl
  · exact ⟨H.dd, fun k d h => by
      have h' : Spec.lookup (.int k) D7 = some d := h
      rw [hk7] at h'
      split at h'
      · cases h'
      · exact H.d0 k d h', H.d1, r6, H.k⟩
  · exact ⟨H.dd, H.d0, fun k d h => by
      have h' : Spec.lookup (.int k) D7 = some d := h
      rw [hk7] at h'
      split at h'
      · cases h'
      · exact H.d1 k d h', r6, H.k⟩
theorem Agree.arm5a {i : Nat} {σ : Si} (G : Agree i σ) {n b : Int} (hn : isN n) (hb : b = 0 ∨ b = 1) (h : (Spec.lookup (encTuple encO [some b, some n]) σ.R).isSome = true) : Agree (i + 1) (σ.mk1 b (n + 2)) := by
  rw [← G.l b hb n hn] at h
  have e : σ.mk1 b (n + 2) = σ := if_pos h
  rw [e]; exact G.later
theorem Held.arm5 {σ : Si} (H : Held σ) {n b : Int} : Held (σ.mk1 b (n + 2)) := by
  unfold Si.mk1; split
  · exact H
  · exact H.setD (isV_getD fun d h => H.dd _ d h) _ _
theorem Agree.arm5b {i : Nat} {σ : Si} (G : Agree i σ) {n b : Int} (hn : isN n) (hb : b = 0 ∨ b = 1) (h : (Spec.lookup (encTuple encO [some b, some n]) σ.R).isSome = false) :
    Agree (i + 1) (Si.mk1 { σ with R := putD (encTuple encO [some b, some n]) ((Spec.lookup (encTuple encO [none, some n]) σ.R).getD .none) σ.R } b (n + 2)) := by
  rw [← G.g n hn]
  rw [← G.l b hb n hn] at h
  generalize hd : (Spec.lookup (.int (n + 2)) σ.Dd).getD .none = d0
  have e : Si.mk1 { σ with R := putD (encTuple encO [some b, some n]) d0 σ.R } b (n + 2) = Si.setD { σ with R := putD (encTuple encO [some b, some n]) d0 σ.R } (some b) (n + 2) d0 := by
    refine (if_neg (fun q => ?_)).trans ?_
    · exact absurd (h.symm.trans q) Bool.false_ne_true
    · rw [show Si.getD { σ with R := putD (encTuple encO [some b, some n]) d0 σ.R } none (n + 2) = d0 from hd]
  rw [e]
  have C := G.core.set (c := some b) hb hn d0
  obtain ⟨e1, e2, e3⟩ := setD_D { σ with R := putD (encTuple encO [some b, some n]) d0 σ.R } σ rfl rfl rfl (some b) (n + 2) d0
  have C' := C.of (τ := Si.setD { σ with R := putD (encTuple encO [some b, some n]) d0 σ.R } (some b) (n + 2) d0) e1 e2 e3 (Si.setD_R ..)
  have F := ((G.fits.withR (encTuple encO [some b, some n]) d0).setD (some b) (n + 2) d0).mono (show 10 * i + 1 + 1 ≤ 10 * (i + 1) by omega)
  refine ⟨?_, ?_, ?_, F, ?_, C'.g, C'.l⟩
  · rw [Si.setD_cur]; exact G.cur
  · rw [Si.setD_K, Si.setD_S]; exact G.ks
  · rw [Si.setD_K]; exact Nat.le_succ_of_le G.kl
  · rw [Si.setD_K]; exact G.kc
theorem Held.arm5b {σ : Si} (H : Held σ) {n b : Int} : Held (Si.mk1 { σ with R := putD (encTuple encO [some b, some n]) ((Spec.lookup (encTuple encO [none, some n]) σ.R).getD .none) σ.R } b (n + 2)) :=
  (H.withR (H.getV none n) _).arm5
end
section
set_option maxRecDepth 100000
section
open PySem.Calls Builtin Builtin.ObjectAttr Builtin.Getset_descriptor
variable {prog : Program} {w : World} {A : Around} {R : Result → Shared → Prop} {E : Value → Shared → Prop} {s : Shared} {K : Frag} {x C L : Addr} {h₀ : Heap} {m : Str → Option Value} {news news' : List (Addr × Obj)}
  {ox : Obj} {od : Option Obj} {name : Str} {tk : Tok} {v : Value} {cd : ClassData}
/-- a class whose instances have a dict and whose bases let a store pass -/
noncomputable def Passes (K : Frag) (C : Addr) (cd : ClassData) : Prop :=
  clsIn K C = some cd ∧ cd.mro.isEmpty = false ∧ cd.mro.contains (.type "object") = true ∧ cd.hasDict = true ∧ ∀ self, refuseLoop self "__setattr__" cd.mro = pure ()
theorem storeE_open (X : K.In s.heap) (I : InstAt s.heap x ox C od) (P : Passes K C cd) (ht : takerIn K C name = some none)
    (h : ∀ b, wpAny (model prog w) A.in1 (storeInOwnDict (.ref x) (.ref C) (.str name tk) name v b)
      (fun fin s' => match fin with | .done f => R (.ok f) s' | .again c' => c'.quiet = true ∧ codeAny (model prog w) A c' R s') (fun e s' => R (.error e) s') s) :
    codeAny (model prog w) A (.call (.builtin "object.__setattr__") ⟨[.ref x, .str name tk, v], []⟩) R s := by
  obtain ⟨hc, hne, hobj, _, hpass⟩ := P
  have SF := PySem.F.store_object
  have Lsub : Looks (model prog w) s.heap (isInstance (.ref x) (.type "object")) true :=
    I.type.andThen (looks_mroIn X (by unfold mroIn; rw [hc, Option.bind_some, if_neg (by rw [hne]; decide), hobj]))
  obtain ⟨attr, ha, hr⟩ := Option.bind_eq_some_iff.mp ht
  have Lmro : Looks (model prog w) s.heap (mroOf (.ref C)) cd.mro := (looks_clsIn X hc).andThen .now
  have Ltak : Looks (model prog w) s.heap (storeTaker? attr) none := by
    cases attr with
    | none => exact .now
    | some a =>
      obtain ⟨b, hb, hb'⟩ := Option.map_eq_some_iff.mp hr
      refine (looks_takesIn X hb).andThen ?_
      cases b with
      | true => cases hb'
      | false => exact .now
  refine codeAny_call_builtin SF.slot.plain SF.entry (@check_slot (model prog w) _ _ s "object.__setattr__" "object" "__setattr__" (.ref x) [.str name tk, v] [] _ SF.kind SF.split Lsub (SF.args (.ref x) (.str name tk) v) ?_)
  rw [osa_eq, refuse_eq]
  refine wpAny_bind (wpAny_bind (I.type.here (wpAny_bind (Lmro.here ?_))))
  rw [hpass]
  exact wpAny_pure (wpAny_bind (I.type.here (wpAny_bind ((looks_findIn X ha).here (wpAny_bind (Ltak.here (h _)))))))
/-- the end of a store: the name put into the dict at D -/
theorem putE {D : Addr} {es es' : List DictEntry} {n n' : Nat} {pre post : List (Addr × Obj)} {Q : Fin → Shared → Prop} (F : Fr h₀ L s.heap m) (N : News h₀ L s.heap (pre ++ (D, dictOf es n) :: post))
    (h1 : ∀ p ∈ pre, p.1 ≠ D) (h2 : ∀ p ∈ post, p.1 ≠ D) (hl : (getL name es).isSome = true)
    (e : (putL name (PyData.keyHash w.params name) (.str name s.toks) v es, putN name es n) = (es', n')) (hz : es'.length ≤ 1000)
    (h : ∀ h', Fr h₀ L h' m → News h₀ L h' (pre ++ (D, dictOf es' n') :: post) → Q (.done (.ret .none)) { s with heap := h', toks := s.toks + 1 }) :
    wpAny (model prog w) A (storeInDict D (.str name tk) name v) Q E s := by
  obtain ⟨e1, e2⟩ := Prod.mk.inj e
  have ep : Obj.putName name (PyData.keyHash w.params name) (.str name s.toks) v (dictOf es n) = dictOf es' n' := by rw [putName_dict, e1, e2]
  obtain ⟨U1, U2⟩ := news_upd (f := Obj.putName name (PyData.keyHash w.params name) (.str name s.toks) v) F N h1 h2 ep rfl
  have D0 := (N (D, dictOf es n) (by simp)).1
  have D1 := (U2 (D, dictOf es' n') (by simp)).1
  unfold storeInDict newKeyGuard
  refine wpAny_bind (wpAny_pure (wpAny_bind ?_))
  unfold nsSet
  refine wpAny_bind (wpAny_bind (wpAny_askSetting (wpAny_pure (wpAny_bind (wpAny_mkText (wpAny_bind (wpAny_loadPart D0 ?_)))))))
  have c : (!es.toArray.any (·.key.isStr name) && es.toArray.any (·.refKey)) = false := by
    rw [← Array.any_toList, ← Array.any_toList]
    unfold getL at hl
    split at hl
    · rename_i en he
      rw [List.any_eq_true.mpr ⟨en, List.mem_of_find?_eq_some he, List.find?_some he⟩]; rfl
    · split at hl
      · cases hl
      · rename_i z; rw [Bool.not_eq_true] at z; rw [z, Bool.and_false]
  dsimp only
  rw [aRefKeyMayBeTheName_at, c]
  refine wpAny_updatePart D0 ?_
  refine wpAny_bind (wpAny_lookBehind D1 (pastItsLine_dict (by rw [List.size_toArray, sizeLine_eq]; omega)) ?_)
  exact wpAny_pure (h _ U1 U2)
/-- the first store into an object without a dict -/
theorem storeE_first {vs : Array Value} {sl : Array (Option Value)} {Q : Unit → Shared → Prop} (F : Fr h₀ L s.heap m) (X₀ : K.In h₀) (N : News h₀ L s.heap ((x, ⟨.ref C, none, .fields vs, sl⟩) :: news)) (hx : ∀ p ∈ news, p.1 ≠ x)
    (P : Passes K C cd) (hs : findIn K (.ref C) "__setattr__" = some (some (.builtin "object.__setattr__"))) (ht : takerIn K C name = some none)
    (h : ∀ D h', Fr h₀ L h' m → News h₀ L h' ((D, dictOf [⟨PyData.keyHash w.params name, .str name (s.toks + 1), v⟩] 1) :: (x, ⟨.ref C, some D, .fields vs, sl⟩) :: news) → (∀ p ∈ news, p.1 < D) → x < D → Q () { s with heap := h', toks := s.toks + 2 }) :
    wpAny (model prog w) A (setAttr (.ref x) name v) Q E s := by
  have X := X₀.keeps F.keep
  have hx0 := (N _ (.head _)).1
  have I : InstAt s.heap x ⟨.ref C, none, .fields vs, sl⟩ C none := ⟨hx0, rfl, rfl, trivial⟩
  refine set_plain X I hs ?_
  refine storeE_open (s := { s with toks := s.toks + 1 }) X I P ht fun b => ?_
  obtain ⟨hc, _, _, hd', _⟩ := P
  have N1 := N.push F (dictOf [] 0)
  have F1 : Fr h₀ L (s.heap.push (dictOf [] 0)) m := F.push _
  have lt : ∀ p ∈ news, p.1 < s.heap.objs.size := fun p hp => Heap.lt_size (N p (.tail _ hp)).1
  have ltx : x < s.heap.objs.size := Heap.lt_size hx0
  obtain ⟨F2, N2⟩ := news_upd (pre := [(s.heap.objs.size, dictOf [] 0)]) (f := fun o : Obj => { o with dict := some s.heap.objs.size }) F1 N1
    (fun p hp => by rw [List.mem_singleton.mp hp]; exact Nat.ne_of_gt ltx) hx rfl rfl
  refine wpAny_bind (wpAny_pure (wpAny_bind (wpAny_bind (wpAny_loadPart hx0 (wpAny_bind (Looks.here (s := { s with toks := s.toks + 1 }) (looks_clsIn X hc) ?_))))))
  rw [hd']
  refine wpAny_bind (wpAny_alloc (wpAny_bind (wpAny_update (N1 _ (.tail _ (.head _))).1 (wpAny_pure ?_))))
  refine putE (pre := []) (es := []) (n := 0) F2 N2 (fun _ h => (nomatch h)) (fun p hp => ?_) rfl rfl (Nat.le_of_ble_eq_true rfl) fun h' F' N' => h _ h' F' N' lt ltx
  rcases List.mem_cons.mp hp with rfl | hp
  · exact Nat.ne_of_lt ltx
  · exact Nat.ne_of_lt (lt p hp)
/-- a later store -/
theorem storeE_next {D : Addr} {es es' : List DictEntry} {n n' : Nat} {vs : Array Value} {sl : Array (Option Value)} {Q : Unit → Shared → Prop} (F : Fr h₀ L s.heap m) (X₀ : K.In h₀)
    (N : News h₀ L s.heap ((D, dictOf es n) :: (x, ⟨.ref C, some D, .fields vs, sl⟩) :: news)) (hx : ∀ p ∈ news, p.1 ≠ D) (hxD : x ≠ D)
    (P : Passes K C cd) (hs : findIn K (.ref C) "__setattr__" = some (some (.builtin "object.__setattr__"))) (ht : takerIn K C name = some none) (hl : (getL name es).isSome = true)
    (e : (putL name (PyData.keyHash w.params name) (.str name (s.toks + 1)) v es, putN name es n) = (es', n')) (hz : es'.length ≤ 1000)
    (h : ∀ h', Fr h₀ L h' m → News h₀ L h' ((D, dictOf es' n') :: (x, ⟨.ref C, some D, .fields vs, sl⟩) :: news) → Q () { s with heap := h', toks := s.toks + 2 }) :
    wpAny (model prog w) A (setAttr (.ref x) name v) Q E s := by
  have X := X₀.keeps F.keep
  have hx0 := (N _ (.tail _ (.head _))).1
  have I : InstAt s.heap x ⟨.ref C, some D, .fields vs, sl⟩ C (some (dictOf es n)) := ⟨hx0, rfl, rfl, (N _ (.head _)).1⟩
  refine set_plain X I hs ?_
  refine storeE_open (s := { s with toks := s.toks + 1 }) X I P ht fun b => ?_
  obtain ⟨hc, _, _, hd', _⟩ := P
  refine wpAny_bind (wpAny_pure (wpAny_bind (wpAny_bind (wpAny_loadPart hx0 (wpAny_bind (Looks.here (s := { s with toks := s.toks + 1 }) (looks_clsIn X hc) ?_))))))
  rw [hd']
  refine wpAny_pure (a := some D) ?_
  exact putE (s := { s with toks := s.toks + 1 }) (pre := []) F N (fun _ h => (nomatch h)) (fun p hp => by
    rcases List.mem_cons.mp hp with rfl | hp
    · exact hxD
    · exact hx p hp) hl e hz fun h' F' N' => h h' F' N'
end
end
section
set_option maxRecDepth 100000
section
open PySem.Calls Builtin Builtin.ObjectAttr Builtin.Getset_descriptor
variable {prog : Program} {w : World} {A : Around} {R : Result → Shared → Prop} {E : Value → Shared → Prop} {s : Shared} {K : Frag} {x C L : Addr} {h₀ : Heap} {m : Str → Option Value} {news news' : List (Addr × Obj)}
  {ox : Obj} {od : Obj} {name : Str} {tk : Tok} {v : Value} {cd : ClassData}
/-- a field of an exception object of an own class -/
theorem getE {expr : Bool} {Q : Value → Shared → Prop} (X : K.In s.heap) (I : InstAt s.heap x ox C (some od)) (hga : findIn K (.ref C) "__getattribute__" = some (some (.builtin "BaseException.__getattribute__")))
    (hgx : findIn K (.ref C) "__getattr__" = some none) (hsub : mroIn K C (.type "BaseException") = some true) (hf : findObj K C (some od) name = some (.value v)) (hv : handedIn v = true) (h : Q v { s with toks := s.toks + 1 }) :
    wpAny (model prog w) A (getAttr (.ref x) name expr) Q E s := by
  obtain ⟨hp, g, d, t, os⟩ := s
  have FX := PySem.F.attr_Exception
  have L0 := I.type (M := model prog w)
  have L1 := looks_findIn (M := model prog w) X hga
  have L2 := looks_findIn (M := model prog w) X hgx
  have L3 := looks_find (M := model prog w) X I hf
  have L4 : Looks (model prog w) hp (isInstance (.ref x) (.type "BaseException")) true := I.type.andThen (looks_mroIn X hsub)
  unfold getAttr getAttrBy
  refine wpAny_bind (wpAny_mkText (wpAny_holding (wpAny_bind (L0.at (wpAny_bind (L1.at ?_))))))
  show wpAny _ _ (getAttrByItsOwn _ _ _ _ _ _) _ _ _
  unfold getAttrByItsOwn
  refine wpAny_bind (L2.at ?_)
  refine wpAny_bind (wpAny_attempt (wpAny_holding ?_))
  have hx0 : (expr && onTheHeap (Value.builtin "BaseException.__getattribute__")) = false := by cases expr <;> rfl
  unfold callGetattribute
  rw [hx0]
  show wpAny _ _ (boundAndCalled _ _ _) _ _ _
  unfold boundAndCalled
  rw [FX.ga.bind]
  refine wpAny_bind (wpAny_pure (wpAny_call ?_))
  refine codeAny_call_builtin FX.ga.plain F.entry_bexc_ga (@check_slot (model prog w) _ _ _ "BaseException.__getattribute__" "BaseException" "__getattribute__" (.ref x) [.str name t] [] _ (by decide +kernel) (by decide +kernel) L4 (F.args_bexc_ga _ _) ?_)
  refine wpAny_bind (wpAny_pure (wpAny_bind (wpAny_pure (wpAny_bind (L0.at (wpAny_bind (L3.at ?_)))))))
  refine wpAny_pure ?_
  show wpAny _ _ (handedOut v) _ _ _
  rw [handedOut_of hv]; exact wpAny_pure h
end
section
variable {M : Model} {A : Around} {E : Value → Shared → Prop} {s : Shared}
theorem dict_mapF (o : Obj) (f) : (o.mapFields f).dict = o.dict := by obtain ⟨_, _, dt, _⟩ := o; cases dt <;> rfl
/-- the exception e in flight: of class cls, with the dict D, its first entry's flight mark fl -/
noncomputable def TrD (h B : Heap) (e : Addr) (cls : Value) (D : Addr) (fl : Value) : Prop :=
  ∃ oe vs T oT ts, h.get? e = some oe ∧ oe.cls = cls ∧ oe.dict = some D ∧ oe.data = .fields vs ∧ vs[1]? = some (.ref T) ∧ B.get? T = none ∧ T ≠ e ∧ h.get? T = some oT ∧ oT.data = .fields ts ∧ ts[3]? = some fl
noncomputable def FlyD (B : Heap) (l : List Env) (e : Addr) (cls : Value) (D : Addr) (fl : Value) (h : Heap) : Prop := B.StaysIn h ∧ B.get? e = none ∧ h.FunFrames B l ∧ TrD h B e cls D fl
/-- one object of fields changed, none else -/
theorem funFrames_upd {B h : Heap} {l : List Env} {a : Addr} {o : Obj} {vs : Array Value} (ho : h.get? a = some o) (hd : o.data = .fields vs) (f : Obj → Obj) (hl : h.FunFrames B l) : (h.update a f).FunFrames B l :=
  hl.of_keeps fun b ob hb hn => ⟨ob, (Heap.get?_update_other _ _ fun q => by subst q; rw [ho] at hb; cases hb; exact hn vs hd).trans hb, rfl⟩
theorem slots_upd {h : Heap} {a : Addr} {o : Obj} {vs : Array Value} (ho : h.get? a = some o) (hd : o.data = .fields vs) (f : Obj → Obj) : h.UpToSlots (h.update a f) :=
  fun b ob hb hn => ⟨ob.slots, (Heap.get?_update_other _ _ fun q => by subst q; rw [ho] at hb; cases hb; exact hn vs hd).trans hb⟩
theorem stays_upd {B h : Heap} {a : Addr} (f : Obj → Obj) (hB : B.StaysIn h) (ha : B.get? a = none) : B.StaysIn (h.update a f) :=
  fun b o q => (Heap.get?_update_other _ _ fun z => by rw [z, q] at ha; cases ha).trans (hB b o q)
/-- a new entry laid ahead of those of the exception -/
theorem entryD {B : Heap} {env : Env} {outer : List Env} {L e D : Addr} {oe : Obj} {vs : Array Value} {head cls : Value} {hadNext : Bool} {Q : Unit → Shared → Prop}
    (hfr : A.frames = some (env :: outer)) (hf : env.frame = some L) (hB : B.StaysIn s.heap) (hBe : B.get? e = none) (hl : s.heap.FunFrames B (env :: outer))
    (he : s.heap.get? e = some oe) (hc : oe.cls = cls) (hD : oe.dict = some D) (hd : oe.data = .fields vs) (hsz : 1 < vs.size)
    (h : ∀ h', FlyD B (env :: outer) e cls D (rawInt L) h' → s.heap.UpToSlots h' → Q () { s with heap := h' }) :
    wpAny M A (do let a ← frameOf env; let pl ← entryPlaceOf L hadNext; let b ← EntryCells.newEntry head a .none (rawInt L) .none pl; setField (.ref e) 1 b) Q E s := by
  have off : e ∉ (env :: outer).filterMap (·.frame) := fun hm => by
    obtain ⟨_, o, ho, hn⟩ := hl.mem hm
    rw [he] at ho; cases ho; exact hn vs hd
  refine wpAny_bind (wpAny_frameOf_fun hfr hl hf fun h₁ hs => wpAny_bind (wpAny_entryPlaceOf fun pl hpl => ?_))
  unfold EntryCells.newEntry newFields
  refine wpAny_bind (wpAny_newObj_type ?_ (hpl.sizeOk5 _ _ _ _ _))
  have u1 : s.heap.UpToSlots h₁ := fun b o hb _ => hs.2.2 b o hb
  have e1 : h₁.get? e = some oe := (hs.2.1 e off).trans he
  have B1 : B.StaysIn h₁ := fun b o hb => (hs.2.1 b fun hm => by rw [(hl.mem hm).1] at hb; cases hb).trans (hB b o hb)
  have l1 : h₁.FunFrames B (env :: outer) := hl.of_keeps fun b o hb hn => by obtain ⟨sl, q⟩ := hs.2.2 b o hb; exact ⟨_, q, rfl⟩
  generalize hT : (({ cls := .type "traceback", dict := none, data := .fields ([head, .ref L, .none, rawInt L, .none] ++ (if pl.isEmpty then List.replicate 6 Value.none else pl)).toArray } : Obj)) = oT
  have ne : h₁.objs.size ≠ e := Nat.ne_of_gt (Heap.lt_size e1)
  have k2 : ∀ b o, h₁.get? b = some o → (h₁.push oT).get? b = some o := fun b o q => Heap.get?_push_of_some _ q
  have e2 := k2 e oe e1
  refine wpAny_setField e2 hd hsz (h _ ⟨stays_upd _ (fun b o q => k2 b o (B1 b o q)) hBe, hBe, ?_, ?_⟩ ?_)
  · exact funFrames_upd e2 hd _ (l1.of_keeps fun b o hb _ => ⟨o, k2 b o hb, rfl⟩)
  · have hd3 := Obj.data_mapFields hd (·.setIfInBounds 1 (Value.ref h₁.objs.size))
    subst hT
    exact ⟨_, _, h₁.objs.size, _, _, Heap.get?_update_self _ e2 (Obj.isFreed_of_fields hd3), (Obj.cls_mapFields _ _).trans hc, (dict_mapF _ _).trans hD, hd3, by simp [hsz], B1.fresh, ne,
      (Heap.get?_update_other _ _ (Ne.symm ne)).trans (Heap.get?_push_size h₁ rfl), rfl, rfl⟩
  · exact u1.trans ((Heap.UpToSlots.of_keeps k2).trans (slots_upd e2 hd _))
/-- the first frame notes the exception -/
theorem noteD_first {B : Heap} {env : Env} {outer : List Env} {L e D : Addr} {oe : Obj} {vs : Array Value} {cls : Value} {Q : Unit → Shared → Prop}
    (hfr : A.frames = some (env :: outer)) (hf : env.frame = some L) (hB : B.StaysIn s.heap) (hBe : B.get? e = none) (hl : s.heap.FunFrames B (env :: outer))
    (he : s.heap.get? e = some oe) (hc : oe.cls = cls) (hD : oe.dict = some D) (hd : oe.data = .fields vs) (h1 : vs[1]? = some .none)
    (h : ∀ h', FlyD B (env :: outer) e cls D (rawInt L) h' → s.heap.UpToSlots h' → Q () { s with heap := h' }) : wpAny M A (noteFrame (.ref e) env) Q E s := by
  unfold noteFrame
  simp only [hf]
  refine wpAny_bind (wpAny_field he hd h1 ?_)
  rw [if_neg (by decide)]
  exact entryD hfr hf hB hBe hl he hc hD hd (Array.getElem?_eq_some_iff.mp h1).1 h
/-- the flight mark of the first entry is taken away, or set -/
theorem flightD {B : Heap} {l : List Env} {e D : Addr} {cls fl : Value} {Q : Unit → Shared → Prop} (x : FlyD B l e cls D fl s.heap)
    (h : ∀ h', FlyD B l e cls D .none h' → s.heap.UpToSlots h' → Q () { s with heap := h' }) : wpAny M A (setFlight (.ref e) none) Q E s := by
  obtain ⟨hB, hBe, hl, oe, vs, T, oT, ts, he, hc, hD, hd, h1, hBT, ne, hT, hdT, h3⟩ := x
  have hz : 3 < ts.size := (Array.getElem?_eq_some_iff.mp h3).1
  unfold setFlight
  refine wpAny_bind (wpAny_field he hd h1 ?_)
  rw [if_pos (show (Value.ref T != Value.none) = true from by simp)]
  have hd3 := Obj.data_mapFields hdT (·.setIfInBounds 3 Value.none)
  refine wpAny_setField hT hdT hz (h _ ⟨stays_upd _ hB hBT, hBe, funFrames_upd hT hdT _ hl, ?_⟩ (slots_upd hT hdT _))
  exact ⟨oe, vs, T, _, _, (Heap.get?_update_other _ _ ne).trans he, hc, hD, hd, h1, hBT, ne, Heap.get?_update_self _ hT (Obj.isFreed_of_fields hd3), hd3, by simp [hz]⟩
/-- a further frame notes it -/
theorem noteD_next {B : Heap} {env : Env} {outer : List Env} {L e D : Addr} {cls : Value} {Q : Unit → Shared → Prop}
    (hfr : A.frames = some (env :: outer)) (hf : env.frame = some L) (x : FlyD B (env :: outer) e cls D .none s.heap)
    (h : ∀ h', FlyD B (env :: outer) e cls D (rawInt L) h' → s.heap.UpToSlots h' → Q () { s with heap := h' }) : wpAny M A (noteFrame (.ref e) env) Q E s := by
  obtain ⟨hB, hBe, hl, oe, vs, T, oT, ts, he, hc, hD, hd, h1, hBT, ne, hT, hdT, h3⟩ := x
  unfold noteFrame
  simp only [hf]
  refine wpAny_bind (wpAny_field he hd h1 ?_)
  rw [if_pos (show (Value.ref T != Value.none) = true from by simp)]
  refine wpAny_bind (wpAny_field hT hdT h3 ?_)
  rw [if_neg (show ¬ ((Value.none == rawInt L) = true) from by simp [rawInt])]
  refine wpAny_bind (wpAny_setField hT hdT (Array.getElem?_eq_some_iff.mp h3).1 ?_)
  exact entryD hfr hf (stays_upd _ hB hBT) hBe (funFrames_upd hT hdT _ hl) ((Heap.get?_update_other _ _ ne).trans he) hc hD hd (Array.getElem?_eq_some_iff.mp h1).1
    fun h' y u => h h' y ((slots_upd hT hdT _).trans u)
theorem FlyD.up {B h : Heap} {env : Env} {outer : List Env} {e D : Addr} {cls fl : Value} (x : FlyD B (env :: outer) e cls D fl h) : FlyD B outer e cls D fl h := by
  obtain ⟨a, b, ⟨_, _, c⟩, d⟩ := x
  exact ⟨a, b, c, d⟩
theorem FlyD.there {B h : Heap} {l : List Env} {e D : Addr} {cls fl : Value} (x : FlyD B l e cls D fl h) : ∃ o vs, h.get? e = some o ∧ o.cls = cls ∧ o.dict = some D ∧ o.data = .fields vs := by
  obtain ⟨_, _, _, oe, vs, _, _, _, a, b, c, d, _⟩ := x
  exact ⟨oe, vs, a, b, c, d⟩
end
noncomputable def RaisedD (base : Heap) (l : List Env) (e : Addr) (cls : Value) (D : Addr) (news : List (Addr × Obj)) (h : Heap) : Prop :=
  ∃ B, base.StaysIn B ∧ (∀ q ∈ news, B.get? q.1 = some q.2 ∧ base.get? q.1 = none) ∧ FlyD B l e cls D .none h
section
variable {M : Model} {A : Around} {E : Value → Shared → Prop} {s' : Shared} {base g h : Heap} {outer : List Env} {L a e D : Addr} {m : Str → Option Value} {name : Str} {scope : Scope} {cd : Value} {Q : Unit → Shared → Prop} {news : List (Addr × Obj)}
theorem leave_raiseD {cls : Value} {vs : Array Value} {sl : Array (Option Value)} (K : Below A base outer g) (F : Fr g L s'.heap m) (N : News g L s'.heap ((e, ⟨cls, some D, .fields vs, sl⟩) :: news)) (hne : ∀ q ∈ news, q.1 ≠ e) (h1 : vs[1]? = some .none)
    (hQ : ∀ h', RaisedD base outer e cls D news h' → g.UpToSlots h' → Q () { s' with heap := h' }) (hk : scope.kind = .function := by rfl) :
    wpAny M (A.deeper (envOf name scope L a cd)) (leaving (envOf name scope L a cd) (.ref e)) Q E s' := by
  have K' := K.push (name := name) (a := a) (cd := cd) F hk
  have he := N _ (.head _)
  have hin : ∀ env ∈ (envOf name scope L a cd :: outer), ∀ b, env.frame = some b → b ∈ e :: (envOf name scope L a cd :: outer).filterMap (·.frame) :=
    fun env he b hb => .tail _ (List.mem_filterMap.mpr ⟨env, he, hb⟩)
  have st : base.StaysIn (hideAll s'.heap (e :: (envOf name scope L a cd :: outer).filterMap (·.frame))) := fun b o q => hideAll_get _ (K'.stays b o q) fun hm => by
    rcases List.mem_cons.mp hm with rfl | hm
    · rw [fresh_of_stays K.stays he.2.2] at q; cases q
    · rw [(K'.frames.mem hm).1] at q; cases q
  have hl : ∀ q ∈ news, (hideAll s'.heap (e :: (envOf name scope L a cd :: outer).filterMap (·.frame))).get? q.1 = some q.2 ∧ base.get? q.1 = none := fun q hq => by
    have hq' := N q (.tail _ hq)
    refine ⟨hideAll_get _ hq'.1 fun hm => ?_, fresh_of_stays K.stays hq'.2.2⟩
    rcases List.mem_cons.mp hm with hm | hm
    · exact hne q hq hm
    obtain ⟨env, he, hf⟩ := List.mem_filterMap.mp hm
    rcases List.mem_cons.mp he with rfl | he
    · exact hq'.2.1 (Option.some.inj hf).symm
    · obtain ⟨o, ho, _⟩ := (K.frames.mem (List.mem_filterMap.mpr ⟨env, he, hf⟩)).2
      rw [hq'.2.2] at ho; cases ho
  unfold leaving
  refine wpAny_bind (noteD_first (B := hideAll s'.heap (e :: (envOf name scope L a cd :: outer).filterMap (·.frame))) K'.stack rfl (fun b o q => of_hideAll _ q) (hideAll_none _ (.head _)) (funFrames_hide K'.frames hin) he.1 rfl rfl rfl h1 fun h₂ x u => ?_)
  exact flightD (s := { s' with heap := h₂ }) x fun h₃ y u' => hQ h₃ ⟨_, st, hl, y.up⟩ ((Heap.UpToSlots.of_keeps F.keep).trans (u.trans u'))
end
section
variable {prog : Program} {w : World} {A₀ : Around} {E : Value → Shared → Prop} {s' : Shared} {h₀ h : Heap} {outer : List Env} {L a e t D : Addr} {m : Str → Option Value} {name : Str} {scope : Scope} {cd : Value} {cl : List (Str × Addr)}
  {n : Str} {b₀ : Stmt} {suite : List Stmt} {pos np : Pos} {rest : List ExceptHandler} {Q : Flow → Shared → Prop} {news : List (Addr × Obj)} {KF : Frag} {C N : Addr} {newId : String}
  {p : Program} {loose : List Str} {mean : ExcName → Option Value} {mg mb : Str → Option Value} {x nm q : Str} {bs bm : List Value} {hdct : Bool} {sn : List Str} {sub : List Value} {ab : Bool} {col : Option Bool} {dd : Option Addr} {k0 k1 k2 k3 k5 : Option Value}
theorem caught_D (K : Below A₀ h₀ outer h₀) (F : Fr h₀ L s'.heap m) (R : RaisedD h₀ (envX name scope L a cd cl :: outer) e (.ref C) D news s'.heap)
    (X : KF.In h₀) (T : TopRead p loose mg mb h₀) (ex : nsIn KF mainGlobals x = some (some (.ref C))) (hC : KF.lookup C = some (excClassObj nm q C N bs bm hdct sn sub ab col dd k0 k1 k2 k3 k5 newId)) (hbase : bm.contains (.type "BaseException") = true)
    (k : ∀ h' oe vs tk, Fr h₀ L h' (fun y => if y = n then some (.ref e) else m y) → News h₀ L h' ((e, oe) :: news) → oe.cls = .ref C → oe.dict = some D → oe.data = .fields vs →
      wpAny (model prog w) ((A₀.deeper (envX name scope L a cd cl)).mark (some (.ref e))) (execs (b₀ :: suite) (envX name scope L a cd cl))
        (fun f s₄ => wpAny (model prog w) (A₀.deeper (envX name scope L a cd cl)) (do bindName (envX name scope L a cd cl) n .none; unbindBehindTheSuite (envX name scope L a cd cl) n pos) (fun _ s₅ => Q f s₅) E s₄)
        (AsSuiteRaised (model prog w) ((A₀.deeper (envX name scope L a cd cl)).mark (some (.ref e))) (envX name scope L a cd cl) n pos (notedBy (model prog w) ((A₀.deeper (envX name scope L a cd cl)).mark (some (.ref e))) (envX name scope L a cd cl) (cameBackBy (model prog w) (A₀.deeper (envX name scope L a cd cl)) (envX name scope L a cd cl) E)))
        { s' with heap := h', toks := tk })
    (hk : scope.kind = .function := by rfl) (hlo : (envX name scope L a cd cl).kindOf n = some .local := by rfl) (hx : (envX name scope L a cd cl).kindOf x = some .globalImplicit := by rfl) (hd : (x == ("__debug__" : Str)) = false := by decide) :
    wpAny (model prog w) (A₀.deeper (envX name scope L a cd cl)) (noteFrame (.ref e) (envX name scope L a cd cl))
      (fun _ s₂ => wpAny (model prog w) (A₀.deeper (envX name scope L a cd cl)) (setFlight (.ref e) none) (fun _ s₃ =>
        wpAny (model prog w) (A₀.deeper (envX name scope L a cd cl)) (handleBy (.ref e) (envX name scope L a cd cl) (.ExceptHandler (some (.Name x np)) (some n) (b₀ :: suite) pos :: rest)) Q E s₃) E s₂) E s' := by
  obtain ⟨B, hB, hl, hfl⟩ := R
  have hL : B.get? L = none := by
    obtain ⟨_, _, ⟨_, ⟨L', _, hf, hn', _⟩, _⟩, _⟩ := hfl
    obtain rfl : L = L' := Option.some.inj hf
    exact hn'
  have stay : ∀ {h' : Heap} {fl : Value}, FlyD B (envX name scope L a cd cl :: outer) e (.ref C) D fl h' → h₀.StaysIn h' := fun y b o z => y.1 b o (hB b o z)
  refine noteD_next (Around.frames_deeper K.stack) rfl hfl fun h₄ x₄ u₄ => ?_
  refine flightD (s := { s' with heap := h₄ }) x₄ fun h₅ x₅ u₅ => ?_
  have F₅ := F.of_stays (stay x₅) (u₄.trans u₅)
  obtain ⟨ob, _, hob, hobc, _, _⟩ := x₅.there
  refine wpAny_handleBy_cons (codeAny_handlers_test (nameX_K F₅ X T ex ?_ hk hx hd)) (by intro q; cases q)
  refine wpAny_excMatches_sub_self (F₅.keep _ _ (X _ _ hC)) hob hobc hbase (codeAny_handlers_suite_as ?_)
  refine flightD (s := { s' with heap := h₅ }) x₅ fun h₆ x₆ u₆ => ?_
  have F₆ := F₅.of_stays (stay x₆) u₆
  obtain ⟨oe, vs, hoe, hoec, hoeD, hoed⟩ := x₆.there
  have N₆ : News h₀ L h₆ ((e, oe) :: news) := fun q hq => by
    rcases List.mem_cons.mp hq with rfl | hq
    · refine ⟨hoe, fun (z : e = L) => ?_, fresh_of_stays hB x₆.2.1⟩
      obtain ⟨o, ho, hn⟩ := (x₆.2.2.1.mem (b := L) (List.mem_filterMap.mpr ⟨_, .head _, rfl⟩)).2
      rw [← z, hoe] at ho; cases ho; exact hn vs hoed
    · have y := hl q hq
      exact ⟨x₆.1 _ _ y.1, (fun z => by have y1 := y.1; rw [z, hL] at y1; cases y1), y.2⟩
  exact storeX_L F₆ N₆ (fun h₇ F₇ N₇ => k h₇ oe vs _ F₇ N₇ hoec hoeD hoed) hk hlo
end
end
section
set_option maxRecDepth 100000
section
variable {M : Model} {A : Around} {E : Value → Shared → Prop} {env : Env}
variable {nm q : Str} {C N : Addr} {bs bm : List Value} {hdct : Bool} {sn : List Str} {sub : List Value} {ab : Bool} {col : Option Bool} {dd : Option Addr} {k0 k1 k2 k3 k5 : Option Value} {newId : String}
/-- raise of an object that its class's own __init__ has filled -/
theorem raise_made {s : Shared} {x : Sem Value} {Q : Flow → Shared → Prop} (hbase : bm.contains (.type "BaseException") = true) (hh : A.handled = none)
    (h : wpAny M A x (fun v s₁ => ∃ e t dx sl, v = .ref e ∧ s₁.heap.get? C = some (excClassObj nm q C N bs bm hdct sn sub ab col dd k0 k1 k2 k3 k5 newId) ∧
      s₁.heap.get? e = some ⟨.ref C, dx, .fields #[.ref t, .none, .none, .none, .bool false, .none], sl⟩ ∧ E (.ref e) s₁) E s) :
    wpAny M A (raiseStmt env (some x) none) Q E s := by
  have hcB : (Value.ref C :: bm).contains (.type "BaseException") = true := by rw [List.contains_cons, hbase, Bool.or_true]
  unfold raiseStmt
  refine wpAny_bind (wpAny_mono h (fun v s₁ h₁ => ?_) fun _ _ x => x)
  obtain ⟨e, t, dx, sl, rfl, hC, he, hE⟩ := h₁
  obtain ⟨hp, g, d, tk, os⟩ := s₁
  repeat (first | with_reducible refine wpAny_loadPart_at he ?_ | with_reducible refine wpAny_loadPart_at hC ?_ | (with_reducible refine wpAny_isSubtype_exc hC ?_; rw [hcB]) | wp_step)
  exact wpAny_raiseNew_none hh hE
end
section
variable {prog : Program} {w : World} {A : Around} {E : Value → Shared → Prop} {s : Shared} {name : Str} {scope : Scope} {cd : Value} {h₀ : Heap} {L a : Addr} {m mg mb : Str → Option Value} {p : Program} {loose : List Str} {KF : Frag}
variable {nm q : Str} {C N fI : Addr} {bs bm : List Value} {hdct : Bool} {sn : List Str} {sub : List Value} {ab : Bool} {col : Option Bool} {dd : Option Addr} {k0 k1 k2 k3 k5 : Option Value} {B newId initId : String} {x : Str} {oI : Obj} {mN : Str → Option Value}
  {e₀ : Expr} {rest : List Expr} {np cpos pos : Pos} {Q : Flow → Shared → Prop} {news : List (Addr × Obj)}
theorem made_news {g h h' : Heap} {cls : Value} {e : Addr} {args : List Value} (F : Fr g L h m) (N : News g L h news) (hx : Heap.MadeExcOf h h' e cls args) (hcl : cls ≠ .type "tuple") :
    ∃ t, Fr g L h' m ∧ News g L h' ((e, ⟨cls, none, .fields #[.ref t, .none, .none, .none, .bool false, .none], #[]⟩) :: (t, ⟨.type "tuple", none, .seq args.toArray 0, #[]⟩) :: news) ∧ ∀ p ∈ ((t, (⟨.type "tuple", none, .seq args.toArray 0, #[]⟩ : Obj)) :: news), p.1 ≠ e := by
  obtain ⟨t, he, htn, ht⟩ := hx.there
  have fresh : ∀ b, h.get? b = none → b ≠ L ∧ g.get? b = none := fun b hb => ⟨(fun z => by
    obtain ⟨o, _, _, ho, _⟩ := F.ns
    rw [z, ho] at hb; cases hb), fresh_of_stays F.keep hb⟩
  refine ⟨t, F.of_stays (fun b o z => hx.keeps b o (F.keep b o z)) (Heap.UpToSlots.of_keeps hx.keeps), fun p hp => ?_, fun p hp => ?_⟩
  · rcases List.mem_cons.mp hp with rfl | hp
    · exact ⟨he, fresh _ hx.new⟩
    · rcases List.mem_cons.mp hp with rfl | hp
      · exact ⟨ht, fresh _ htn⟩
      · exact ⟨hx.keeps _ _ (N p hp).1, (N p hp).2⟩
  · rcases List.mem_cons.mp hp with rfl | hp
    · intro (z : t = e)
      rw [z, he] at ht
      exact hcl (congrArg Obj.cls (Option.some.inj ht))
    · intro z
      have y := (N p hp).1
      rw [z, hx.new] at y; cases y
theorem raise_init (F : Fr h₀ L s.heap m) (X : KF.In h₀) (T : TopRead p loose mg mb h₀) (ex : nsIn KF mainGlobals x = some (some (.ref C)))
    (hC : KF.lookup C = some (excClassObj nm q C N bs bm hdct sn sub ab col dd k0 k1 k2 k3 k5 newId)) (FB : ExcBaseFacts B newId initId bm) (hn : h₀.Ns N mN) (hi : mN "__init__" = some (.ref fI))
    (hI : KF.lookup fI = some oI) (hIc : oI.cls = .type "function") (hh : A.handled = none)
    (h : wpAny (model prog w) A (spliced (backTo cpos (starEach (e₀ :: rest) (envOf name scope L a cd)))) (fun vs s₂ => vs.length ≤ sizeLine ∧ (∀ b o, h₀.get? b = some o → s₂.heap.get? b = some o) ∧
      ∀ h' e, Heap.MadeExcOf s₂.heap h' e (.ref C) vs →
        wpAny (model prog w) (A.under (.builtin "type.__call__" ⟨.ref C :: vs, []⟩)) (call (.ref fI) (.ref e :: vs))
          (fun r s' => r = .none ∧ ∃ t dx sl, (∀ b o, h₀.get? b = some o → s'.heap.get? b = some o) ∧ s'.heap.get? e = some ⟨.ref C, dx, .fields #[.ref t, .none, .none, .none, .bool false, .none], sl⟩ ∧ E (.ref e) s') E { s₂ with heap := h' }) E s)
    (he : starEach (e₀ :: rest) (envOf name scope L a cd) = (false, eval e₀ (envOf name scope L a cd)) :: starEach rest (envOf name scope L a cd) := by rfl)
    (hplain : (backTo cpos (starEach rest (envOf name scope L a cd))).any (·.1) = false := by rfl)
    (hk : scope.kind = .function := by rfl) (hx : (envOf name scope L a cd).kindOf x = some .globalImplicit := by rfl) (hd : (x == ("__debug__" : Str)) = false := by decide) :
    wpAny (model prog w) A (exec (.Raise (some (.Call (.Name x np) (e₀ :: rest) [] cpos)) none pos) (envOf name scope L a cd)) Q E s := by
  have hany : (backTo cpos (starEach (e₀ :: rest) (envOf name scope L a cd))).any (·.1) = false := by
    rw [he]; show (false || (backTo cpos (starEach rest (envOf name scope L a cd))).any (·.1)) = false; rw [hplain]; rfl
  have h' := ld_global_at (A := A) (M := model prog w) (Q := fun f s₁ => f = .ref C ∧ wpAny (model prog w) A (evalArgs (.ref C) true (backTo cpos (starEach (e₀ :: rest) (envOf name scope L a cd))) []) (fun a s₂ => a.kw = [] ∧ a.pos.length ≤ sizeLine ∧ (∀ b o, h₀.get? b = some o → s₂.heap.get? b = some o) ∧
      ∀ h' e, Heap.MadeExcOf s₂.heap h' e (.ref C) a.pos →
        wpAny (model prog w) (A.under (.builtin "type.__call__" ⟨.ref C :: a.pos, []⟩)) (call (.ref fI) (.ref e :: a.pos))
          (fun r s' => r = .none ∧ ∃ t dx sl, (∀ b o, h₀.get? b = some o → s'.heap.get? b = some o) ∧ s'.heap.get? e = some ⟨.ref C, dx, .fields #[.ref t, .none, .none, .none, .bool false, .none], sl⟩ ∧ E (.ref e) s') E { s₂ with heap := h' }) E s₁) (E := E) (pos := np) F T.g (mg_of X T.g ex) ⟨rfl, by
        rw [he] at h ⊢
        exact Calls.evalArgs_plain (wpAny_mono h (fun vs s₂ h₂ => ⟨rfl, h₂.1, h₂.2.1, h₂.2.2⟩) fun _ _ y => y)⟩ hk hx hd
  rw [arm_exec_Raise]
  refine wpAny_bind (wpAny_standAt (raise_made (C := C) (nm := nm) (q := q) (N := N) (bs := bs) (bm := bm) (hdct := hdct) (sn := sn) (sub := sub) (ab := ab) (col := col) (dd := dd) (k0 := k0) (k1 := k1) (k2 := k2) (k3 := k3) (k5 := k5) (newId := newId) FB.hasBase hh ?_))
  refine wpAny_bind (wpAny_mono (wpAny_Call_ofName (wpAny_mono h' (fun f s₁ h₁ => ?_) fun _ _ x => x)) (fun v s₃ h₃ => wpAny_bind (wpAny_standAt (wpAny_pure h₃))) fun _ _ x => x)
  obtain ⟨rfl, h₁⟩ := h₁
  unfold callWith
  refine wpAny_bind (wpAny_holding (wpAny_mono h₁ (fun a s₂ h₂ => wpAny_bind (wpAny_standAt ?_)) fun _ _ x => x))
  obtain ⟨apos, akw⟩ := a
  obtain ⟨hkw, hlen, hst, h₂⟩ := h₂
  obtain rfl : akw = [] := hkw
  obtain ⟨hp, g, d, tk, os⟩ := s₂
  have hCp := hst _ _ (X _ _ hC)
  simp only [hany]
  refine wpAny_bind (wpAny_keeperOf_exc hCp ?_)
  refine wpAny_bind (wpAny_call_exc_init (hrest := hlen) FB hCp (hn.keeps hst) hi (hst _ _ (X _ _ hI)) hIc fun h₃ e hm => wpAny_mono (h₂ h₃ e hm) (fun r s' hr => ?_) fun _ _ x => x)
  obtain ⟨rfl, t, dx, sl, hst', he', hE⟩ := hr
  exact ⟨rfl, wpAny_bind (wpAny_holding (wpAny_point (wpAny_pure ⟨e, t, dx, sl, rfl, hst' _ _ (X _ _ hC), he', hE⟩)))⟩
end
end
def GoalP (P : Prop) : Prop := P
theorem GoalP.out {P : Prop} (h : GoalP P) : P := h
theorem goalP_of {P : Prop} (h : P) : GoalP P = True := eq_true h
structure Wrap (P : Prop) : Prop where
  out : P
structure G1 (Tz : Prop) where
  Pz1 : Prop
  impz : Wrap Pz1 → Tz
structure G2 (Tz : Prop) where
  Pz1 : Prop
  Pz2 : Prop
  impz : Wrap Pz1 → Wrap Pz2 → Tz
structure G7 (Tz : Prop) where
  Pz1 : Prop
  Pz2 : Prop
  Pz3 : Prop
  Pz4 : Prop
  Pz5 : Prop
  Pz6 : Prop
  Pz7 : Prop
  impz : Wrap Pz1 → Wrap Pz2 → Wrap Pz3 → Wrap Pz4 → Wrap Pz5 → Wrap Pz6 → Wrap Pz7 → Tz
section
open PySem.Calls
set_option maxRecDepth 100000
set_option maxHeartbeats 8000000
local macro_rules | `(tactic| walk_at $s:str) => `(tactic| k_extra $s)
local macro_rules | `(tactic| k_all) => `(tactic| k_extra "k_all")
local macro_rules | `(tactic| k_mem) => `(tactic| k_extra "k_mem")
local macro_rules | `(tactic| k_handed) => `(tactic| k_extra "k_handed")
local macro_rules | `(tactic| k_get) => `(tactic| k_extra "k_get")
local macro_rules | `(tactic| k_lt $h) => `(tactic| (replace $h := allLt_of $h; have hAllLt := $h; simp only [AllLt, and_true] at $h:ident))
local macro_rules | `(tactic| k_ne) => `(tactic| (refine neN ?_; first | (with_reducible assumption) | exact Ne.symm (by with_reducible assumption) | exact Nat.ne_of_lt (by walk_at "mine c") | exact Nat.ne_of_gt (by walk_at "mine c") | ((try dsimp only); omega)))
example : True := by
  k_with "mine c" => with_reducible first | assumption | exact And.left (by assumption) | exact And.left (And.right (by assumption)) | exact And.left (And.right (And.right (by assumption))) | exact And.left (And.right (And.right (And.right (by assumption)))) | exact And.left (And.right (And.right (And.right (And.right (by assumption))))) | exact And.left (And.right (And.right (And.right (And.right (And.right (by assumption)))))) | exact And.left (And.right (And.right (And.right (And.right (And.right (And.right (by assumption))))))) | exact And.left (And.right (And.right (And.right (And.right (And.right (And.right (And.right (by assumption)))))))) | exact And.left (And.right (And.right (And.right (And.right (And.right (And.right (And.right (And.right (by assumption))))))))) | exact And.left (And.right (And.right (And.right (And.right (And.right (And.right (And.right (And.right (And.right (by assumption)))))))))) | exact And.left (And.right (And.right (And.right (And.right (And.right (And.right (And.right (And.right (And.right (And.right (by assumption))))))))))) | exact And.left (And.right (And.right (And.right (And.right (And.right (And.right (And.right (And.right (And.right (And.right (And.right (by assumption)))))))))))) | exact And.left (And.right (And.right (And.right (And.right (And.right (And.right (And.right (And.right (And.right (And.right (And.right (And.right (by assumption))))))))))))) | exact And.left (And.right (And.right (And.right (And.right (And.right (And.right (And.right (And.right (And.right (And.right (And.right (And.right (And.right (by assumption)))))))))))))) | exact And.right (by assumption) | exact And.right (And.right (by assumption)) | exact And.right (And.right (And.right (by assumption))) | exact And.right (And.right (And.right (And.right (by assumption)))) | exact And.right (And.right (And.right (And.right (And.right (by assumption))))) | exact And.right (And.right (And.right (And.right (And.right (And.right (by assumption)))))) | exact And.right (And.right (And.right (And.right (And.right (And.right (And.right (by assumption)))))))
  k_with "k_all" => first | assumption | exact fun p hp => Nat.ne_of_lt (tb_ltOf (by assumption) p hp) | exact fun p hp => Nat.ne_of_gt (tb_ltOf (by assumption) p hp) | ((repeat (rename _ ∧ _ => q; cases q)); exact fun p hp => Nat.ne_of_lt (tb_ltOf (by assumption) p hp)) | ((repeat (rename _ ∧ _ => q; cases q)); exact fun p hp => Nat.ne_of_gt (tb_ltOf (by assumption) p hp))
  k_with "mine sub" => (intro p hp; (repeat first | exact hp | refine List.Mem.tail _ ?_))
  k_with "mine opt" => first | assumption | exact isOpt_none | exact isOpt_int _ _
  k_with "mine tk" => first | assumption | exact Mine.tk2 (by walk_at "mine opt") (by walk_at "mine opt")
  k_with "compareOp In ref ref" => (k_here; k_dflt (refine rows_in (by exact Nat.le_of_ble_eq_true rfl) (by k_asm) (by assumption) (by walk_at "mine sub") (by k_mem) (by assumption) (by k_mem) (by walk_at "mine tk") ?_; k_whole))
  k_with "compareOp NotIn ref ref" => (k_here; k_dflt (refine rows_notin (by exact Nat.le_of_ble_eq_true rfl) (by k_asm) (by assumption) (by walk_at "mine sub") (by k_mem) (by assumption) (by k_mem) (by walk_at "mine tk") ?_; k_whole))
  k_with "call builtin:dict.get" => (k_here; k_dflt (refine rows_get (by exact Nat.le_of_ble_eq_true rfl) (by k_asm) (by assumption) (by walk_at "mine sub") (by k_mem) (by assumption) (by k_mem) (by walk_at "mine tk") ?_; k_whole); intro v' hv')
  k_with "getMethod ref" => (k_here; (with_reducible show wpAny _ _ (getMethod (Value.ref _) _ _) _ _ _); k_dflt (refine rows_meth (by first | exact PySem.F.slot_dict_get | exact PySem.F.slot_dict_pop) (by rfl) (by k_asm) (by assumption) (by walk_at "mine sub") (by k_mem) (by assumption) ?_; k_whole))
  k_with "subscriptTail" => (k_here; (with_reducible show wpAny _ _ (subscriptTail _ _ (Value.ref _) (Value.ref _)) _ _ _); k_dflt (refine rows_itemS (by exact Nat.le_of_ble_eq_true rfl) (by k_asm) (by assumption) (by walk_at "mine sub") (by k_mem) (by assumption) (by k_mem) (by walk_at "mine tk") (by assumption) ?_ (by with_unfolding_all rfl) (by (intro _; with_unfolding_all rfl)); k_whole); intro v' d' hl' hv')
  k_with "call builtin:len" => (k_here; (with_reducible show wpAny _ _ (call (Value.builtin "len") [Value.ref _]) _ _ _); k_dflt (refine lenL (by k_asm) (by k_mem) (by omega) ?_; k_whole); intro t' tk')
  k_with "call builtin:dict.pop" => (k_here; (with_reducible show wpAny _ _ (call (Value.builtin _) [Value.ref _, Value.int _ _]) _ _ _); k_dflt (refine popI (by k_asm) (by k_asm) (by k_updF) (by assumption) (by assumption) (by assumption) (by omega) ?_; k_whole); intro h' o' v' kvs' D' F' N' hd' hf' hn' hl'; (try dsimp only at N'))
  k_with "setItem ref int" => (k_here; k_dflt (refine setItem_K PyProof.V.same_int (intKind_is _ _ _ _) (by k_flat) (by k_asm) (by k_asm) (by k_updF) (by assumption) (by assumption) ?_ (by (rw [sizeLine_eq]; omega)); ); intro h' o' F' N' hd' hf'; (try dsimp only at N'))
  k_with "call builtin:list.pop" => (k_here; k_dflt (refine pop0 (by k_asm) (by k_asm) (by k_upd) (by (have hq := IntsAre.length (by assumption); rw [sizeLine_eq]; simp only [List.length_cons] at *; omega)) ?_; k_whole); intro h' F' N'; (try dsimp only [List.nil_append, List.cons_append] at N'))
  k_with "call builtin:list.append" => (k_here; (with_reducible show wpAny _ _ (call (Value.builtin _) [Value.ref _, _]) _ _ _); k_dflt (refine appF (by k_asm) (by k_asm) (by first | omega | (simp only [List.length_append, List.length_cons, List.length_nil]; omega)) (by k_upd) ?_; k_whole); intro h' F' N'; (try dsimp only [List.nil_append, List.cons_append] at N'))
  k_with "getItem ref int" => (k_here; k_dflt (refine getItem_some PyProof.V.same_int (intKind_is _ _ _ _) (by k_tabat) (by assumption) ?_; k_whole); intro v' d' hl' hv')
  k_with "mine stat" => (rename Rep _ _ _ _ => RR; refine Rep.use RR ?_; intro hS1 hS2 hS3 oS4 hS4 kS4 hS4' hS4'' hS5 hS6 oS7 hS7 kS7 hS7' hS7'' hS8 hS9 esS10 nS10 hS10 hS10' hS11 hS12 hS13 esS14 nS14 hS14 hS14' hS15 hS16 hS17 hS18 hS19 hS20 hS21 hS22 hS23 hS24 hS25 hS26 gS1 gS2 gS3 gS4 gS5 gS6)
  k_with "mine statS" => (rename Stat _ _ _ => SS; refine Stat.use SS ?_; intro hS1 hS2 hS3 oS4 hS4 kS4 hS4' hS4'' hS5 hS6 oS7 hS7 kS7 hS7' hS7'' hS8 hS9 esS10 nS10 hS10 hS10' hS11 hS12 hS13 esS14 nS14 hS14 hS14' hS15 hS16 hS17 hS18 hS19 hS20 hS21 hS22 hS23 hS24 hS25 hS26 gS1 gS2 gS3 gS4 gS5 gS6)
  k_with "mine dyn" => (rename Rep _ _ _ _ => RR; refine Rep.dyn RR ?_; intro jS1 odS jS2 kdS jS2' jS2'' o0S jS3 k0S jS3' jS3'' o1S jS4 k1S jS4' jS4'')
  k_with "mine fr" => (intro z q1 q2; (try dsimp only); first | (rw [if_neg q1, q2]; rfl) | (have q3 := q2; simp only [List.contains_cons, List.contains_nil, Bool.or_false, Bool.or_eq_false_iff, beq_eq_false_iff_ne, ne_eq] at q3; simp only [q1, q2, q3, if_false, List.contains_nil, Bool.false_eq_true]))
  k_with "mine frw" => (intro z q2; (try dsimp only); have q3 := q2; simp only [List.contains_cons, List.contains_nil, Bool.or_false, Bool.or_eq_false_iff, beq_eq_false_iff_ne, ne_eq] at q3; simp only [q2, q3, if_false, List.contains_nil, Bool.false_eq_true])
  k_with "k_handed" => exact flat_handed (by assumption)
  k_with "k_get" => assumption
  k_with "execs cons" => (k_here; first | k_gentoks | (refine execsG ?_; intro Q' hn hr))
  k_with "k_mem" => (change (_ : Addr × Obj) ∈ (_ : List (Addr × Obj)); ktr_member)
  trivial
local macro_rules | `(tactic| walk_at "mine step") => `(tactic| first | (with_reducible refine NextOf.go (by assumption) ?_) | (with_reducible refine RestOf.ret (by assumption) ?_) | (with_reducible refine RestOf.brk (by assumption) ?_) | (with_reducible refine RestOf.cont (by assumption) ?_) | (k_unfold; (try dsimp only)) | (k_end; wrow_close) | (walk1 <;> (try dsimp only)) | (dsimp only; walk1) | (leave1; walk_say "STEP leave1"; try dsimp only))
-- 10_draw
example : True := by
  k_with "mine now" =>
    revert X; k_fill; intro X
    refine wpAny_call ?_
    k_dflt ktr_enter
    refine wpAny_noRaise ?_
    repeat' ((fail_if_success (with_reducible show wpAny _ _ (exec (Stmt.While _ _ _ _) _) _ _ _)); walk_at "mine step")

    rename Fr _ _ _ _ => F1
    rename News _ _ _ _ => N1
    refine While_st [] (fun n nx => ∃ ys cells sv st c1 c2, cells.length = n ∧ IntsAre ys cells ∧ (∀ c ∈ cells, (0:Int) ≤ c ∧ c < 10 ^ 24) ∧ cells.length ≤ 10 ∧ 0 ≤ sv ∧ sv < 3000000 ∧
      nx = ((dk, W.listOf #[.ref cel, .ref sd] c0) :: (cel, W.listOf ys.toArray c1) :: (sd, W.listOf #[.int sv st] c2) :: ex)) F1 N1 ⟨_, _, _, _, _, _, rfl, hys, hcb, hlen, hs0, hs1, rfl⟩ ?_
    clear F1 N1 N hys hcb hlen hs0 hs1 sv st c1 c2 ys cells
    rintro n u nx h₁ tk₁ F1 N1 ⟨ys, cells, sv, st, c1, c2, rfl, hys, hcb, hlen, hs0, hs1, rfl⟩
    have hpos : 0 < many := by omega
    cases hys with
    | nil =>
      repeat' (walk_at "mine step")
      exact h _ _ _ _ _ _ _ _ _ _ (fmod_lo _ hpos) (fmod_hi _ hpos) (by assumption) (News.tail (News.tail (by assumption))) .nil hcb hlen (fmod_lo _ (by decide)) (Int.lt_trans (fmod_hi _ (by decide)) (by decide))
    | cons c t hys =>
      have hc := hcb c (.head _)
      repeat' (walk_at "mine step")
      · rename decide _ = true => hx; simp at hx
      · exact WhileStep.intro (by assumption) (News.tail (by assumption)) (Nat.lt_succ_self _) ⟨fun _ _ => rfl, _, _, _, _, _, _, rfl, hys, fun x hx => hcb x (.tail _ hx), Nat.le_of_succ_le hlen, fmod_lo _ (by decide), Int.lt_trans (fmod_hi _ (by decide)) (by decide), rfl⟩
      · exact h _ _ _ _ (Value.int (c.fdiv many) _ :: _) (c.fdiv many :: _) _ _ _ _ (fmod_lo _ hpos) (fmod_hi _ hpos) (by assumption) (News.tail (News.tail (by assumption))) (.cons _ _ hys)
          (fun x hx => by
            rcases List.mem_cons.mp hx with rfl | hx
            · exact ⟨fdiv_lo hc.1 hpos, Int.lt_of_le_of_lt (fdiv_le hc.1 hpos) hc.2⟩
            · exact hcb x (.tail _ hx)) hlen hs0 hs1

  trivial
theorem draw_raw {w : World} {p : Program} {loose : List Str} {cn : Str} {cs : Scope} {a : Addr} {ccd : Value} {cl : List (Str × Addr)} {base h₀ : Heap} {L : Addr} {m : Str → Option Value} {s : Shared} {Q E : Value → Shared → Prop}
    {mean : ExcName → Option Value} {mg mb : Str → Option Value} {ex : List (Addr × Obj)} {dk cel sd : Addr} {ys : List Value} {cells : List Int} {sv : Int} {st tm : Tok} {c0 c1 c2 : Nat} {many : Int}
    (B : Below callerA base [] h₀) (F : Fr h₀ L s.heap m) (X : (Kf w.params).In h₀) (T : Top p loose mean mg mb h₀) (hk : cs.kind = .function)
    (N : News h₀ L s.heap ((dk, W.listOf #[.ref cel, .ref sd] c0) :: (cel, W.listOf ys.toArray c1) :: (sd, W.listOf #[.int sv st] c2) :: ex))
    (hys : IntsAre ys cells) (hcb : ∀ c ∈ cells, 0 ≤ c ∧ c < 10 ^ 24) (hlen : cells.length ≤ 10) (hs0 : 0 ≤ sv) (hs1 : sv < 3000000) (hmany : many = 9 ∨ many = 3 ∨ many = 50)
    (hne1 : @Ne Nat cel dk) (hne2 : @Ne Nat sd dk) (hne3 : @Ne Nat cel sd) (hx1 : ∀ p ∈ ex, p.1 ≠ cel) (hx2 : ∀ p ∈ ex, p.1 ≠ sd)
    (h : ∀ v t h' tk' ys' cells' sv' st' c1' c2', 0 ≤ v → v < many → Fr h₀ L h' m → News h₀ L h' ((dk, W.listOf #[.ref cel, .ref sd] c0) :: (cel, W.listOf ys'.toArray c1') :: (sd, W.listOf #[.int sv' st'] c2') :: ex) →
      IntsAre ys' cells' → (∀ c ∈ cells', 0 ≤ c ∧ c < 10 ^ 24) → cells'.length ≤ 10 → 0 ≤ sv' → sv' < 3000000 → Q (.int v t) { s with heap := h', toks := tk' }) :
    wpAny (model PySem.Challenge.rw_np0094_01.row.prog w) (Ar 302 7 cn cs L a ccd cl []) (call (.ref 842) [.ref dk, .int many tm]) Q E s := by
  refine GoalP.out ?_
  simp (disch := k_dflt (walk_at "mine now")) only [↓goalP_of]

-- 11_drawc
theorem draw_c {w : World} {p : Program} {loose : List Str} {cn : Str} {cs : Scope} {a : Addr} {ccd : Value} {cl : List (Str × Addr)} {base h₀ : Heap} {L : Addr} {m : Str → Option Value} {s : Shared} {Q E : Value → Shared → Prop}
    {mean : ExcName → Option Value} {mg mb : Str → Option Value} {nx : List (Addr × Obj)} {A : Ad} {σ : Si} {tm : Tok} {many : Int}
    (B : Below callerA base [] h₀) (F : Fr h₀ L s.heap m) (X : (Kf w.params).In h₀) (T : Top p loose mean mg mb h₀) (hk : cs.kind = .function)
    (N : News h₀ L s.heap nx) (R : Rep w A σ nx) (hmany : many = 9 ∨ many = 3 ∨ many = 50)
    (h : ∀ v t h' tk' nx', 0 ≤ v → v < many → Fr h₀ L h' m → News h₀ L h' nx' → Rep w A σ nx' → Ext A nx nx' → Q (.int v t) { s with heap := h', toks := tk' }) :
    wpAny (model PySem.Challenge.rw_np0094_01.row.prog w) (Ar 302 7 cn cs L a ccd cl []) (call (.ref 842) [.ref A.dk, .int many tm]) Q E s := by
  obtain ⟨ys, cells, c1, m1, hys, hcb, hlen⟩ := R.ce
  obtain ⟨sv, st, c2, m2, hs0, hs1⟩ := R.se
  have m0 := R.st.dk
  have ap := Apart.of R.nd
  have n1 : @Ne Nat A.ce A.dk := fun e => m0.2.1 (e ▸ (by simp [Ad.muts]))
  have n2 : @Ne Nat A.se A.dk := fun e => m0.2.1 (e ▸ (by simp [Ad.muts]))
  have hf : ∀ x ∈ [A.ce, A.se], x ∈ A.muts := by intro x hx; simp [Ad.muts] at hx ⊢; rcases hx with h | h <;> simp [h]
  refine draw_raw (ex := butL [A.ce, A.se] nx) B F X T hk (News.cons1 (N _ m0.1) (News.cons1 (N _ m1) (News.cons1 (N _ m2) (butL_news N)))) hys hcb hlen hs0 hs1 hmany n1 n2 ap.ce_se (butL_ne (.head _)) (butL_ne (.tail _ (.head _)))
    fun v t h' tk' ys' cells' sv' st' c1' c2' h0 h1 F' N' hys' hcb' hlen' hs0' hs1' => ?_
  have hs : ∀ q ∈ butL [A.ce, A.se] nx, q ∈ (A.ce, W.listOf ys'.toArray c1') :: (A.se, W.listOf #[.int sv' st'] c2') :: butL [A.ce, A.se] nx := fun q hq => .tail _ (.tail _ hq)
  refine h v t h' tk' _ h0 h1 F' (News.tail N') (R.upd [A.ce, A.se] hf hs σ (.inl ⟨ne2' ap.ce_wd ap.se_wd, rfl⟩) (.inl ⟨ne2' ap.ce_dd ap.se_dd, rfl⟩) (.inl ⟨ne2' ap.ce_v0 ap.se_v0, rfl⟩) (.inl ⟨ne2' ap.ce_v1 ap.se_v1, rfl⟩)
    (.inl ⟨ne2' ap.ce_rw ap.se_rw, rfl⟩) (.inl ⟨ne2' ap.ce_kp ap.se_kp, rfl⟩) (.inl ⟨ne2' ap.ce_sr ap.se_sr, rfl⟩) (.inr ⟨ys', cells', c1', .head _, hys', hcb', hlen'⟩) (.inr ⟨sv', st', c2', .tail _ (.head _), hs0', hs1'⟩)) (Ext.of_but hs hf)

-- 20_place
example : True := by
  k_with "mine now" =>
    revert X; k_fill; intro X
    refine wpAny_call ?_
    k_dflt ktr_enter
    refine wpAny_noRaise ?_
    repeat' (walk_at "mine step")
    · rename _ = true => hx
      rename _ ∧ _ ∧ AllLt _ _ => hl
      exact h _ _ _ _ _ (by assumption) (News.skip2 (by assumption)) hl.2 (by rw [if_pos hx]; exact hc)
    · rename _ = false => hx
      rename _ ∧ _ ∧ AllLt _ _ => hl
      exact h _ _ _ _ _ (by assumption) (News.skip2 (by assumption)) hl.2 (by rw [if_neg (by rw [hx]; exact Bool.false_ne_true)]; exact isOpt_none)
  trivial
theorem place_raw {w : World} {p : Program} {loose : List Str} {cn : Str} {cs : Scope} {a : Addr} {ccd : Value} {cl : List (Str × Addr)} {base h₀ : Heap} {L : Addr} {m : Str → Option Value} {s : Shared} {Q E : Value → Shared → Prop}
    {mean : ExcName → Option Value} {mg mb : Str → Option Value} {ex : List (Addr × Obj)} {rw : Addr} {o : Obj} {D : List (PyData × PyData)} {cur : Option Int} {cv : Value} {nm : Int} {tn : Tok}
    (B : Below callerA base [] h₀) (F : Fr h₀ L s.heap m) (X : (Kf w.params).In h₀) (T : Top p loose mean mg mb h₀) (hk : cs.kind = .function)
    (N : News h₀ L s.heap ((rw, o) :: ex)) (hr : RowsO PySem.Challenge.rw_np0094_01.row.prog w (fun p => p ∈ ex) o D) (lo : (rw == sysModules) = false) (hc : isOpt cur cv = true)
    (h : ∀ b v t' h' tk', Fr h₀ L h' m → News h₀ L h' ((b, ({ cls := .type "tuple", data := .seq #[v, .int nm t'] } : Obj)) :: (rw, o) :: ex) → AllLt b ((rw, o) :: ex) →
      isOpt (if (Spec.lookup (encTuple encO [cur, some nm]) D).isSome = true then cur else none) v = true → Q (.ref b) { s with heap := h', toks := tk' }) :
    wpAny (model PySem.Challenge.rw_np0094_01.row.prog w) (Ar 302 7 cn cs L a ccd cl []) (call (.ref 849) [.ref rw, cv, .int nm tn]) Q E s := by
  refine GoalP.out ?_
  simp (disch := k_dflt (walk_at "mine now")) only [↓goalP_of]

theorem place_c {w : World} {p : Program} {loose : List Str} {cn : Str} {cs : Scope} {a : Addr} {ccd : Value} {cl : List (Str × Addr)} {base h₀ : Heap} {L : Addr} {m : Str → Option Value} {s : Shared} {Q E : Value → Shared → Prop}
    {mean : ExcName → Option Value} {mg mb : Str → Option Value} {nx : List (Addr × Obj)} {A : Ad} {σ : Si} {cur : Option Int} {cv : Value} {nm : Int} {tn : Tok}
    (B : Below callerA base [] h₀) (F : Fr h₀ L s.heap m) (X : (Kf w.params).In h₀) (T : Top p loose mean mg mb h₀) (hk : cs.kind = .function)
    (N : News h₀ L s.heap nx) (R : Rep w A σ nx) (hc : isOpt cur cv = true)
    (h : ∀ b v t' h' tk' nx', Fr h₀ L h' m → News h₀ L h' nx' → Rep w A σ nx' → Ext A nx nx' → PS A nx' b (tup #[v, .int nm t'] 0) →
      isOpt (if (Spec.lookup (encTuple encO [cur, some nm]) σ.R).isSome = true then cur else none) v = true → Q (.ref b) { s with heap := h', toks := tk' }) :
    wpAny (model PySem.Challenge.rw_np0094_01.row.prog w) (Ar 302 7 cn cs L a ccd cl []) (call (.ref 849) [.ref A.rw, cv, .int nm tn]) Q E s := by
  obtain ⟨o, m1, hr⟩ := R.rw
  have lo := R.st.lows.2.2.2.2.2
  refine place_raw (ex := nx) B F X T hk (News.cons1 (N _ m1) N) (hr.mono fun p hp => hp.1) lo hc fun b v t' h' tk' F' N' hl hv => ?_
  have hs : ∀ q ∈ nx, q ∈ (b, tup #[v, .int nm t'] 0) :: nx := fun q hq => .tail _ hq
  have hlt := tb_ltOf hl
  refine h b v t' h' tk' _ F' (News.skip2 N') (R.ext hs) (fun q hq _ => hs q hq) ⟨.head _, fun hm => ?_, fun hm => ?_⟩ hv
  · obtain ⟨o', ho'⟩ := R.there b hm
    exact absurd (hlt _ (.tail _ ho')) (Nat.lt_irrefl _)
  · obtain ⟨o', ho'⟩ := R.offin b hm
    exact absurd (hlt _ (.tail _ ho')) (Nat.lt_irrefl _)

-- 30_valuein
example : True := by
  k_with "mine now" =>
    revert X; k_fill; intro X
    refine wpAny_call ?_
    k_dflt ktr_enter
    refine wpAny_noRaise ?_
    repeat' (walk_at "mine step")
    · rename Spec.lookup _ _ = some _ => hl
      exact h _ _ _ (by assumption) (by assumption) (by rw [valIn_some hl]; assumption)
    · rename Option.isSome _ = false => hl
      exact h _ _ _ (by assumption) (by assumption) (by rw [valIn_none (none_of hl)]; assumption)

  trivial
theorem value_in_raw {w : World} {p : Program} {loose : List Str} {cn : Str} {cs : Scope} {a : Addr} {ccd : Value} {cl : List (Str × Addr)} {base h₀ : Heap} {L : Addr} {m : Str → Option Value} {s : Shared} {Q E : Value → Shared → Prop} {e1 : Env} {A₀ : Around}
    {mean : ExcName → Option Value} {mg mb : Str → Option Value} {news : List (Addr × Obj)} {va vd dd au pe x xd xv : Addr} {od ox : Obj} {Dd Dx : List (PyData × PyData)} {kd kx : List (Int × Value)} {t1 t2 t3 t4 tk : Tok} {k : Int}
    (B : Below A₀ base [e1] h₀) (F : Fr h₀ L s.heap m) (X : (Kf w.params).In h₀) (T : Top p loose mean mg mb h₀) (hk : cs.kind = .function)
    (N : News h₀ L s.heap news) (m1 : (va, instObj 281 vd) ∈ news) (m2 : (vd, dictOf [en w "defaults" t1 (.ref dd), en w "automatic" t2 (.ref au), en w "permanent" t3 (.ref pe)] 3) ∈ news) (m3 : (dd, od) ∈ news)
    (hod : od.IsDictOf (intKind PySem.Challenge.rw_np0094_01.row.prog w) kd) (hfd : PyProof.V.FlatPairs PyData.int kd Dd) (lod : (dd == sysModules) = false)
    (m4 : (x, instObj 337 xd) ∈ news) (m5 : (xd, dictOf [en w "values" t4 (.ref xv)] 1) ∈ news) (m6 : (xv, ox) ∈ news)
    (hox : ox.IsDictOf (intKind PySem.Challenge.rw_np0094_01.row.prog w) kx) (hfx : PyProof.V.FlatPairs PyData.int kx Dx) (lox : (xv == sysModules) = false)
    (h : ∀ v h' tk', Fr h₀ L h' m → News h₀ L h' news → PyProof.V.Flat v (valIn Dd Dx k) → Q v { s with heap := h', toks := tk' }) :
    wpAny (model PySem.Challenge.rw_np0094_01.row.prog w) (Ar 303 10 cn cs L a ccd cl [e1]) (call (.ref 348) [.ref va, .ref x, .int k tk]) Q E s := by
  refine GoalP.out ?_
  simp (disch := k_dflt (walk_at "mine now")) only [↓goalP_of]

-- 31_all
section
example : True := by
  k_with "call ref" => ((with_reducible show wpAny _ _ (call (Value.ref 348) _) _ _ _); k_here; k_dflt (refine value_in_raw (by k_asm) (by k_asm) (by k_asm) (by k_asm) (by rfl) (by k_asm) (by k_mem) (by k_mem) (by k_mem) (by assumption) (by assumption) (by assumption) (by k_mem) (by k_mem) (by k_mem) (by assumption) (by assumption) (by assumption) ?_; k_whole); intro v' h' tk' F' N' fv'; (try k_sweep))
  trivial
example : True := by
  k_with "mine now" =>
    revert X; k_fill; intro X
    walk_at "mine stat"
    walk_at "mine dyn"
    refine wpAny_call ?_
    k_dflt ktr_enter
    refine wpAny_noRaise ?_
    repeat' ((fail_if_success (with_reducible show wpAny _ _ (exec (Stmt.For _ _ _ _ _) _) _ _ _)); walk_at "mine step")
    refine For_invVF (by assumption) rfl rfl ?_ (hE := PassesOwn.never)
    repeat' ((fail_if_success (with_reducible show wpAny _ _ (pyIter _) _ _ _)); walk_at "mine step")
    rename Fr _ _ _ _ => F1
    rename News _ _ _ _ => N1
    refine for_items [Str.ofString "buffer_own"] (fun i nx' => ∃ (vs : List Value) (n : Nat), nx' = (_, W.listOf vs.toArray n) :: nx ∧ KTD.Flats vs (allD σ i)) rfl F1 N1 (items := [.ref A.s0, .ref A.s1, .ref A.s2]) (n := A.c 1) (.tail _ (by assumption)) ?hax ?hlt ⟨[], 0, rfl, .nil⟩ ?turn ?done
    case hax => rintro i nx' ⟨vs, n, rfl, _⟩; exact .tail _ (by assumption)
    case hlt =>
      rintro i nx' q ⟨vs, n, rfl, _⟩ hq
      rcases List.mem_cons.mp hq with rfl | hq
      · exact ⟨_, .head _, rfl⟩
      · exact ⟨q, .tail _ hq, rfl⟩
    case turn =>
      rintro i v u nx' I it h₁ tk₁ hi hI ⟨vs, n, rfl, hfl⟩ F2 N2
      clear F1 N1
      have hv : ∃ sy z t1 t2 t3 t4 nm, v = .ref sy ∧ (sy, instObj 58 z) ∈ nx ∧ (z, dictOf [en w "number" t1 (.int ((i : Int) + 2) t2), en w "name" t3 (.str nm t4)] 2) ∈ nx := by
        match i, hi with
        | 0, hi => injection hi with hi; exact ⟨_, _, _, _, _, _, _, hi.symm, by assumption, by assumption⟩
        | 1, hi => injection hi with hi; exact ⟨_, _, _, _, _, _, _, hi.symm, by assumption, by assumption⟩
        | 2, hi => injection hi with hi; exact ⟨_, _, _, _, _, _, _, hi.symm, by assumption, by assumption⟩
      obtain ⟨sy, z, t1, t2, t3, t4, nm, rfl, hs1, hs2⟩ := hv
      have hIb : @LT.lt Nat _ _ I := hI _ (.head _)
      dsimp only at hIb
      have hIx : AllLt I nx := allLt_of fun q hq => hI q (.tail _ hq)
      have hlen := flats_len hfl
      have hle : (allD σ i).length = 3 * i := allD_len σ i
      have hi3 : i < 3 := by
        rcases Nat.lt_or_ge i 3 with q | q
        · exact q
        · rw [List.getElem?_eq_none (by simpa using q)] at hi; cases hi
      repeat' ((fail_if_success (with_reducible show wpAny _ _ (exec (Stmt.For _ _ _ _ _) _) _ _ _)); walk_at "mine step")
      refine For_invVF (by assumption) rfl rfl ?_ (hE := PassesOwn.never)
      repeat' ((fail_if_success (with_reducible show wpAny _ _ (pyIter _) _ _ _)); walk_at "mine step")
      rename Fr _ _ _ _ => F3
      rename News _ _ _ _ => N3
      rename PyProof.V.Flat _ _ => hv0
      simp only [List.push_toArray] at N3
      have hfl0 := flats_snoc hfl hv0
      refine for_items [] (fun j nx2 => ∃ (vs2 : List Value) (n2 : Nat), nx2 = (I, it) :: (_, W.listOf vs2.toArray n2) :: nx ∧ KTD.Flats vs2 (allD σ i ++ (rowD σ ((i : Int) + 2)).take (j + 1))) rfl F3 N3 (items := [.ref A.b0, .ref A.b1]) (n := A.c 0) (.tail _ (.tail _ hS8)) ?hax2 ?hlt2 ⟨_, _, rfl, hfl0⟩ ?turn2 ?done2
      case hax2 => rintro i nx' ⟨vs, n, rfl, _⟩; exact .tail _ (.tail _ hS8)
      case hlt2 =>
        rintro i nx' q ⟨vs, n, rfl, _⟩ hq
        rcases List.mem_cons.mp hq with rfl | hq
        · exact ⟨_, .head _, rfl⟩
        · rcases List.mem_cons.mp hq with rfl | hq
          · exact ⟨_, .tail _ (.head _), rfl⟩
          · exact ⟨q, .tail _ (.tail _ hq), rfl⟩
      case turn2 =>
        clear F3 N3 N2 F2 hfl0 hv0 hlen
        rintro j v2 u2 nx2 I2 it2 hh2 tk2 hj hI2 ⟨vs5, n5', rfl, hfl5⟩ F2 N2
        clear hI hfl
        have hv : ∃ bb e l f vv ox kx es n5 t Dx, v2 = .ref bb ∧ (bb, instObj 702 e) ∈ nx ∧ (e, dictOf es n5) ∈ nx ∧ getL (Str.ofString "locals") es = some (some (.ref l)) ∧ (l, instObj 337 f) ∈ nx ∧ (f, dictOf [en w "values" t (.ref vv)] 1) ∈ nx ∧
            (vv, ox) ∈ nx ∧ ox.IsDictOf (intKind PP w) kx ∧ PyProof.V.FlatPairs PyData.int kx Dx ∧ (vv == sysModules) = false ∧ (rowD σ ((i : Int) + 2)).take (j + 1) ++ [valIn σ.Dd Dx ((i : Int) + 2)] = (rowD σ ((i : Int) + 2)).take (j + 1 + 1) := by
          match j, hj with
          | 0, hj => injection hj with hj; exact ⟨_, _, _, _, _, _, _, _, _, _, _, hj.symm, hS9, hS10, hS10', hS11, hS12, jS3, jS3', jS3'', gS4, rfl⟩
          | 1, hj => injection hj with hj; exact ⟨_, _, _, _, _, _, _, _, _, _, _, hj.symm, hS13, hS14, hS14', hS15, hS16, jS4, jS4', jS4'', gS5, rfl⟩
        obtain ⟨bb, e, l, f, vv, ox, kx, es, n5, t, Dx, rfl, hb1, hb2, hb3, hb4, hb5, hb6, hb7, hb8, hb9, hb10⟩ := hv
        have hIc : @LT.lt Nat _ _ I2 := hI2 _ (.head _)
        have hId : @LT.lt Nat _ _ I2 := hI2 _ (.tail _ (.head _))
        have hIx2 : AllLt I2 nx := allLt_of fun q hq => hI2 q (.tail _ (.tail _ hq))
        have hlen := flats_len hfl5
        have hj2 : j < 2 := by
          rcases Nat.lt_or_ge j 2 with q | q
          · exact q
          · rw [List.getElem?_eq_none (by simpa using q)] at hj; cases hj
        have hle2 : (allD σ i ++ (rowD σ ((i : Int) + 2)).take (j + 1)).length = 3 * i + (j + 1) := by
          rw [List.length_append, hle, List.length_take]; simp only [rowD, List.length_cons, List.length_nil]; omega
        repeat' (walk_at "mine step")
        rename Fr _ _ _ _ => F3
        rename News _ _ _ _ => N3
        rename PyProof.V.Flat _ _ => hv0
        simp only [List.push_toArray] at N3
        exact FPost.intro F3 N3 (by walk_at "mine fr") ⟨_, _, rfl, by rw [← hb10, ← List.append_assoc]; exact flats_snoc hfl5 hv0⟩
      case done2 =>
        clear F3 N3 N2 F2 hfl0 hv0 hlen
        rintro u2 nx2 hh2 tk2 ⟨vs5, n5', rfl, hfl5⟩ F2 N2
        dsimp only
        repeat' (walk_at "mine step")
        exact FPost.intro F2 N2 (by walk_at "mine fr") ⟨_, _, rfl, hfl5⟩
    case done =>
      clear F1 N1
      rintro u nx' h₁ tk₁ ⟨vs, n, rfl, hfl⟩ F2 N2
      dsimp only
      repeat' (walk_at "mine step")
      exact h _ _ _ _ _ (by assumption) (by assumption) hfl
  trivial
theorem all_c {w : World} {p : Program} {loose : List Str} {cn : Str} {cs : Scope} {a : Addr} {ccd : Value} {cl : List (Str × Addr)} {base h₀ : Heap} {L : Addr} {m : Str → Option Value} {s : Shared} {Q E : Value → Shared → Prop}
    {mean : ExcName → Option Value} {mg mb : Str → Option Value} {nx : List (Addr × Obj)} {A : Ad} {σ : Si}
    (B : Below callerA base [] h₀) (F : Fr h₀ L s.heap m) (X : (Kf w.params).In h₀) (T : Top p loose mean mg mb h₀) (hk : cs.kind = .function)
    (N : News h₀ L s.heap nx) (R : Rep w A σ nx)
    (h : ∀ (b : Addr) (vs : List Value) (n : Nat) (h' : Heap) (tk' : Nat), Fr h₀ L h' m → News h₀ L h' ((b, W.listOf vs.toArray n) :: nx) →
      KTD.Flats vs (allD σ 3) →
      Q (.ref b) { s with heap := h', toks := tk' }) :
    wpAny (model PySem.Challenge.rw_np0094_01.row.prog w) (Ar 302 7 cn cs L a ccd cl []) (call (.ref 856) [.ref A.wo, .ref A.bl, .ref A.sl]) Q E s := by
  refine GoalP.out ?_
  simp (disch := k_dflt (walk_at "mine now")) only [↓goalP_of]

end

example : True := by
  k_with_none
  k_with "mine c" => with_reducible first | assumption | exact And.left (by assumption) | exact And.left (And.right (by assumption)) | exact And.left (And.right (And.right (by assumption))) | exact And.left (And.right (And.right (And.right (by assumption)))) | exact And.left (And.right (And.right (And.right (And.right (by assumption))))) | exact And.left (And.right (And.right (And.right (And.right (And.right (by assumption)))))) | exact And.left (And.right (And.right (And.right (And.right (And.right (And.right (by assumption))))))) | exact And.left (And.right (And.right (And.right (And.right (And.right (And.right (And.right (by assumption)))))))) | exact And.left (And.right (And.right (And.right (And.right (And.right (And.right (And.right (And.right (by assumption))))))))) | exact And.left (And.right (And.right (And.right (And.right (And.right (And.right (And.right (And.right (And.right (by assumption)))))))))) | exact And.left (And.right (And.right (And.right (And.right (And.right (And.right (And.right (And.right (And.right (And.right (by assumption))))))))))) | exact And.left (And.right (And.right (And.right (And.right (And.right (And.right (And.right (And.right (And.right (And.right (And.right (by assumption)))))))))))) | exact And.left (And.right (And.right (And.right (And.right (And.right (And.right (And.right (And.right (And.right (And.right (And.right (And.right (by assumption))))))))))))) | exact And.left (And.right (And.right (And.right (And.right (And.right (And.right (And.right (And.right (And.right (And.right (And.right (And.right (And.right (by assumption)))))))))))))) | exact And.right (by assumption) | exact And.right (And.right (by assumption)) | exact And.right (And.right (And.right (by assumption))) | exact And.right (And.right (And.right (And.right (by assumption)))) | exact And.right (And.right (And.right (And.right (And.right (by assumption))))) | exact And.right (And.right (And.right (And.right (And.right (And.right (by assumption)))))) | exact And.right (And.right (And.right (And.right (And.right (And.right (And.right (by assumption)))))))
  k_with "k_all" => first | assumption | exact fun p hp => Nat.ne_of_lt (tb_ltOf (by assumption) p hp) | exact fun p hp => Nat.ne_of_gt (tb_ltOf (by assumption) p hp) | ((repeat (rename _ ∧ _ => q; cases q)); exact fun p hp => Nat.ne_of_lt (tb_ltOf (by assumption) p hp)) | ((repeat (rename _ ∧ _ => q; cases q)); exact fun p hp => Nat.ne_of_gt (tb_ltOf (by assumption) p hp))
  k_with "mine sub" => (intro p hp; (repeat first | exact hp | refine List.Mem.tail _ ?_))
  k_with "mine opt" => first | assumption | exact isOpt_none | exact isOpt_int _ _
  k_with "mine tk" => first | assumption | exact Mine.tk2 (by walk_at "mine opt") (by walk_at "mine opt")
  k_with "compareOp In ref ref" => (k_here; k_dflt (refine rows_in (by exact Nat.le_of_ble_eq_true rfl) (by k_asm) (by assumption) (by walk_at "mine sub") (by k_mem) (by assumption) (by k_mem) (by walk_at "mine tk") ?_; k_whole))
  k_with "compareOp NotIn ref ref" => (k_here; k_dflt (refine rows_notin (by exact Nat.le_of_ble_eq_true rfl) (by k_asm) (by assumption) (by walk_at "mine sub") (by k_mem) (by assumption) (by k_mem) (by walk_at "mine tk") ?_; k_whole))
  k_with "call builtin:dict.get" => (k_here; k_dflt (refine rows_get (by exact Nat.le_of_ble_eq_true rfl) (by k_asm) (by assumption) (by walk_at "mine sub") (by k_mem) (by assumption) (by k_mem) (by walk_at "mine tk") ?_; k_whole); intro v' hv')
  k_with "getMethod ref" => (k_here; (with_reducible show wpAny _ _ (getMethod (Value.ref _) _ _) _ _ _); k_dflt (refine rows_meth (by first | exact PySem.F.slot_dict_get | exact PySem.F.slot_dict_pop) (by rfl) (by k_asm) (by assumption) (by walk_at "mine sub") (by k_mem) (by assumption) ?_; k_whole))
  k_with "subscriptTail" => (k_here; (with_reducible show wpAny _ _ (subscriptTail _ _ (Value.ref _) (Value.ref _)) _ _ _); k_dflt (refine rows_itemS (by exact Nat.le_of_ble_eq_true rfl) (by k_asm) (by assumption) (by walk_at "mine sub") (by k_mem) (by assumption) (by k_mem) (by walk_at "mine tk") (by assumption) ?_ (by with_unfolding_all rfl) (by (intro _; with_unfolding_all rfl)); k_whole); intro v' d' hl' hv')
  k_with "call builtin:len" => (k_here; (with_reducible show wpAny _ _ (call (Value.builtin "len") [Value.ref _]) _ _ _); k_dflt (refine lenL (by k_asm) (by k_mem) (by omega) ?_; k_whole); intro t' tk')
  k_with "call builtin:dict.pop" => (k_here; (with_reducible show wpAny _ _ (call (Value.builtin _) [Value.ref _, Value.int _ _]) _ _ _); k_dflt (refine popI (by k_asm) (by k_asm) (by k_updF) (by assumption) (by assumption) (by assumption) (by omega) ?_; k_whole); intro h' o' v' kvs' D' F' N' hd' hf' hn' hl'; (try dsimp only at N'))
  k_with "setItem ref int" => (k_here; k_dflt (refine setItem_K PyProof.V.same_int (intKind_is _ _ _ _) (by k_flat) (by k_asm) (by k_asm) (by k_updF) (by assumption) (by assumption) ?_ (by (rw [sizeLine_eq]; omega)); ); intro h' o' F' N' hd' hf'; (try dsimp only at N'))
  k_with "call builtin:list.pop" => (k_here; k_dflt (refine pop0 (by k_asm) (by k_asm) (by k_upd) (by (have hq := IntsAre.length (by assumption); rw [sizeLine_eq]; simp only [List.length_cons] at *; omega)) ?_; k_whole); intro h' F' N'; (try dsimp only [List.nil_append, List.cons_append] at N'))
  k_with "call builtin:list.append" => (k_here; (with_reducible show wpAny _ _ (call (Value.builtin _) [Value.ref _, _]) _ _ _); k_dflt (refine appF (by k_asm) (by k_asm) (by first | omega | (simp only [List.length_append, List.length_cons, List.length_nil]; omega)) (by k_upd) ?_; k_whole); intro h' F' N'; (try dsimp only [List.nil_append, List.cons_append] at N'))
  k_with "getItem ref int" => (k_here; k_dflt (refine getItem_some PyProof.V.same_int (intKind_is _ _ _ _) (by k_tabat) (by assumption) ?_; k_whole); intro v' d' hl' hv')
  k_with "mine stat" => (rename Rep _ _ _ _ => RR; refine Rep.use RR ?_; intro hS1 hS2 hS3 oS4 hS4 kS4 hS4' hS4'' hS5 hS6 oS7 hS7 kS7 hS7' hS7'' hS8 hS9 esS10 nS10 hS10 hS10' hS11 hS12 hS13 esS14 nS14 hS14 hS14' hS15 hS16 hS17 hS18 hS19 hS20 hS21 hS22 hS23 hS24 hS25 hS26 gS1 gS2 gS3 gS4 gS5 gS6)
  k_with "mine statS" => (rename Stat _ _ _ => SS; refine Stat.use SS ?_; intro hS1 hS2 hS3 oS4 hS4 kS4 hS4' hS4'' hS5 hS6 oS7 hS7 kS7 hS7' hS7'' hS8 hS9 esS10 nS10 hS10 hS10' hS11 hS12 hS13 esS14 nS14 hS14 hS14' hS15 hS16 hS17 hS18 hS19 hS20 hS21 hS22 hS23 hS24 hS25 hS26 gS1 gS2 gS3 gS4 gS5 gS6)
  k_with "mine dyn" => (rename Rep _ _ _ _ => RR; refine Rep.dyn RR ?_; intro jS1 odS jS2 kdS jS2' jS2'' o0S jS3 k0S jS3' jS3'' o1S jS4 k1S jS4' jS4'')
  k_with "mine fr" => (intro z q1 q2; (try dsimp only); first | (rw [if_neg q1, q2]; rfl) | (have q3 := q2; simp only [List.contains_cons, List.contains_nil, Bool.or_false, Bool.or_eq_false_iff, beq_eq_false_iff_ne, ne_eq] at q3; simp only [q1, q2, q3, if_false, List.contains_nil, Bool.false_eq_true]))
  k_with "mine frw" => (intro z q2; (try dsimp only); have q3 := q2; simp only [List.contains_cons, List.contains_nil, Bool.or_false, Bool.or_eq_false_iff, beq_eq_false_iff_ne, ne_eq] at q3; simp only [q2, q3, if_false, List.contains_nil, Bool.false_eq_true])
  k_with "k_handed" => exact flat_handed (by assumption)
  k_with "k_get" => assumption
  k_with "execs cons" => (k_here; first | k_gentoks | (refine execsG ?_; intro Q' hn hr))
  k_with "k_mem" => (change (_ : Addr × Obj) ∈ (_ : List (Addr × Obj)); ktr_member)
  trivial
-- 40_rows
example : True := by
  k_with "mine now" =>
    revert X; k_fill; intro X
    obtain ⟨ro, hro, hrr0⟩ := R.rw
    have lo := R.st.lows.2.2.2.2.2
    have hrr : RowsO PP w (fun p => p ∈ nx) ro σ.R := hrr0.mono fun p hp => hp.1
    clear hrr0 R
    refine wpAny_call ?_
    k_dflt ktr_enter
    refine wpAny_noRaise ?_
    repeat' ((fail_if_success (with_reducible show wpAny _ _ (exec (Stmt.For _ _ _ _ _) _) _ _ _)); walk_at "mine step")
    refine For_invVF (by assumption) rfl rfl ?_ (hE := PassesOwn.never)
    repeat' ((fail_if_success (with_reducible show wpAny _ _ (pyIter _) _ _ _)); walk_at "mine step")
    rename Fr _ _ _ _ => F1
    rename News _ _ _ _ => N1
    rename IsRange _ _ _ _ _ _ _ _ => hr1
    refine for_range [Str.ofString "buffer_own"] (fun i nx' => ∃ (vs : List Value) (n : Nat), nx' = (_, W.listOf vs.toArray n) :: nx ∧ KTD.Flats vs (rowsD σ.R i)) rfl hr1 (by decide) (n := 3) (by decide) F1 N1 ?hlt ⟨[], 0, rfl, .nil⟩ ?turn ?done
    case hlt =>
      rintro i nx' q ⟨vs, n, rfl, _⟩ hq
      rcases List.mem_cons.mp hq with rfl | hq
      · exact ⟨_, .head _, rfl⟩
      · exact ⟨q, .tail _ hq, rfl⟩
    case turn =>
      clear F1 N1
      rintro i t u nx' I it h₁ tk₁ hi3 hI ⟨vs, n, rfl, hfl⟩ F2 N2
      have hIb : @LT.lt Nat _ _ I := hI _ (.head _)
      have hIx : AllLt I nx := allLt_of fun q hq => hI q (.tail _ hq)
      have hlen := flats_len hfl
      have hle : (rowsD σ.R i).length = 3 * i := rowsD_len σ.R i
      repeat' ((fail_if_success (with_reducible show wpAny _ _ (exec (Stmt.For _ _ _ _ _) _) _ _ _)); walk_at "mine step")
      refine For_invVF (by assumption) rfl rfl ?_ (hE := PassesOwn.never)
      repeat' ((fail_if_success (with_reducible show wpAny _ _ (pyIter _) _ _ _)); walk_at "mine step")
      rename Fr _ _ _ _ => F3
      rename News _ _ _ _ => N3'
      rename IsRange _ _ _ _ _ _ _ _ => hr3
      rename PyProof.V.Flat _ _ => hv0
      have N3 := News.tail N3'
      simp only [List.push_toArray] at N3
      have hfl0 := flats_snoc hfl hv0
      refine for_range [] (fun j nx2 => ∃ (vs2 : List Value) (n2 : Nat), nx2 = (I, it) :: (_, W.listOf vs2.toArray n2) :: nx ∧ KTD.Flats vs2 (rowsD σ.R i ++ (rowR σ.R (i : Int)).take (j + 1))) rfl hr3 (by decide) (n := 2) (by decide) F3 N3 ?hlt2 ⟨_, _, rfl, hfl0⟩ ?turn2 ?done2
      case hlt2 =>
        rintro i nx' q ⟨vs, n, rfl, _⟩ hq
        rcases List.mem_cons.mp hq with rfl | hq
        · exact ⟨_, .head _, rfl⟩
        · rcases List.mem_cons.mp hq with rfl | hq
          · exact ⟨_, .tail _ (.head _), rfl⟩
          · exact ⟨q, .tail _ (.tail _ hq), rfl⟩
      case turn2 =>
        clear F3 N3 N3' hfl0 hv0 hlen
        rintro j t2 u2 nx2 I2 it2 hh2 tk2 hj2 hI2 ⟨vs5, n5', rfl, hfl5⟩ F2 N2
        clear hI hfl
        have hIc : @LT.lt Nat _ _ I2 := hI2 _ (.head _)
        have hId : @LT.lt Nat _ _ I2 := hI2 _ (.tail _ (.head _))
        have hIx2 : AllLt I2 nx := allLt_of fun q hq => hI2 q (.tail _ (.tail _ hq))
        have hlen := flats_len hfl5
        have hle2 : (rowsD σ.R i ++ (rowR σ.R (i : Int)).take (j + 1)).length = 3 * i + (j + 1) := by
          rw [List.length_append, hle, List.length_take]; simp only [rowR, List.length_cons, List.length_nil]; omega
        have hb10 : (rowR σ.R (i : Int)).take (j + 1) ++ [valR σ.R (j : Int) (i : Int)] = (rowR σ.R (i : Int)).take (j + 1 + 1) := by
          have hj : j = 0 ∨ j = 1 := by omega
          rcases hj with rfl | rfl <;> simp [rowR]
        repeat' (walk_at "mine step")
        · rename PyProof.V.Flat _ _ => hv0
          rename Spec.lookup _ _ = some _ => hl0
          rename News _ _ _ _ => N3
          simp only [List.push_toArray] at N3
          exact FPost.intro (by assumption) (News.tail (News.tail N3)) (by walk_at "mine fr") ⟨_, _, rfl, by rw [← hb10, ← List.append_assoc]; exact flats_snoc hfl5 (by rw [valR_some hl0]; exact hv0)⟩
        · rename PyProof.V.Flat _ _ => hv0
          rename Option.isSome _ = false => hl0
          rename News _ _ _ _ => N3
          simp only [List.push_toArray] at N3
          exact FPost.intro (by assumption) (News.tail (News.tail N3)) (by walk_at "mine fr") ⟨_, _, rfl, by rw [← hb10, ← List.append_assoc]; exact flats_snoc hfl5 (by rw [valR_none (none_of hl0)]; exact hv0)⟩
      case done2 =>
        clear F3 N3 N3' hfl0 hv0 hlen
        rintro u2 nx2 hh2 tk2 ⟨vs5, n5', rfl, hfl5⟩ F2 N2
        dsimp only
        repeat' (walk_at "mine step")
        exact FPost.intro F2 N2 (by walk_at "mine fr") ⟨_, _, rfl, hfl5⟩
    case done =>
      clear F1 N1
      rintro u nx' h₁ tk₁ ⟨vs, n, rfl, hfl⟩ F2 N2
      dsimp only
      repeat' (walk_at "mine step")
      exact h _ _ _ _ _ (by assumption) (by assumption) hfl

  trivial
theorem rows_c {w : World} {p : Program} {loose : List Str} {cn : Str} {cs : Scope} {a : Addr} {ccd : Value} {cl : List (Str × Addr)} {base h₀ : Heap} {L : Addr} {m : Str → Option Value} {s : Shared} {Q E : Value → Shared → Prop}
    {mean : ExcName → Option Value} {mg mb : Str → Option Value} {nx : List (Addr × Obj)} {A : Ad} {σ : Si}
    (B : Below callerA base [] h₀) (F : Fr h₀ L s.heap m) (X : (Kf w.params).In h₀) (T : Top p loose mean mg mb h₀) (hk : cs.kind = .function)
    (N : News h₀ L s.heap nx) (R : Rep w A σ nx)
    (h : ∀ (b : Addr) (vs : List Value) (n : Nat) (h' : Heap) (tk' : Nat), Fr h₀ L h' m → News h₀ L h' ((b, W.listOf vs.toArray n) :: nx) →
      KTD.Flats vs (rowsD σ.R 3) →
      Q (.ref b) { s with heap := h', toks := tk' }) :
    wpAny (model PySem.Challenge.rw_np0094_01.row.prog w) (Ar 302 7 cn cs L a ccd cl []) (call (.ref 863) [.ref A.rw]) Q E s := by
  refine GoalP.out ?_
  simp (disch := k_dflt (walk_at "mine now")) only [↓goalP_of]

-- 50_own
example : True := by
  k_with "mine now" =>
    walk_at "mine stat"
    have jS1 := RR.wd
    have hcc : σ.cur = none ∨ σ.cur = some 0 ∨ σ.cur = some 1 := by
      generalize σ.cur = c at hc
      match c, hc with
      | none, _ => exact .inl rfl
      | some i, hc => exact .inr (hc.imp (congrArg some) (congrArg some))
    rcases hcc with e | e | e
    all_goals (rw [e] at h jS1; dsimp only [curV, ownV] at h jS1; (try simp only [if_true, if_neg (show ¬ (1 : Int) = 0 by decide)] at h jS1))
    all_goals (revert X; k_fill; intro X; refine wpAny_call ?_; k_dflt ktr_enter; refine wpAny_noRaise ?_)
    all_goals repeat' (walk_at "mine step")
    all_goals exact h _ _ (by assumption) (by assumption)
  trivial
theorem own_c1 {w : World} {p : Program} {loose : List Str} {cn : Str} {cs : Scope} {a : Addr} {ccd : Value} {cl : List (Str × Addr)} {base h₀ : Heap} {L : Addr} {m : Str → Option Value} {s : Shared} {Q E : Value → Shared → Prop} 
    {mean : ExcName → Option Value} {mg mb : Str → Option Value} {nx : List (Addr × Obj)} {A : Ad} {σ : Si}
    (B : Below callerA base [] h₀) (F : Fr h₀ L s.heap m) (X : (Kf w.params).In h₀) (T : Top p loose mean mg mb h₀) (hk : cs.kind = .function)
    (N : News h₀ L s.heap nx) (R : Rep w A σ nx)
    (hc : curOk σ.cur) (h : ∀ h' tk', Fr h₀ L h' m → News h₀ L h' nx → Q (ownV A σ.cur) { s with heap := h', toks := tk' }) :
    wpAny (model PySem.Challenge.rw_np0094_01.row.prog w) (Ar 302 7 cn cs L a ccd cl []) (call (.ref 809) [.ref A.wo]) Q E s := by
  refine GoalP.out ?_
  simp (disch := k_dflt (walk_at "mine now")) only [↓goalP_of]

example : True := by
  k_with "mine now" =>
    walk_at "mine stat"
    have jS1 := RR.wd
    have hcc : σ.cur = none ∨ σ.cur = some 0 ∨ σ.cur = some 1 := by
      generalize σ.cur = c at hc
      match c, hc with
      | none, _ => exact .inl rfl
      | some i, hc => exact .inr (hc.imp (congrArg some) (congrArg some))
    rcases hcc with e | e | e
    all_goals (rw [e] at h jS1; dsimp only [curV, ownV] at h jS1; (try simp only [if_true, if_neg (show ¬ (1 : Int) = 0 by decide)] at h jS1))
    all_goals (revert X; k_fill; intro X; refine wpAny_call ?_; k_dflt ktr_enter; refine wpAny_noRaise ?_)
    all_goals repeat' (walk_at "mine step")
    all_goals exact h _ _ (by assumption) (by assumption)

  trivial
theorem own_c2 {w : World} {p : Program} {loose : List Str} {cn : Str} {cs : Scope} {a : Addr} {ccd : Value} {cl : List (Str × Addr)} {base h₀ : Heap} {L : Addr} {m : Str → Option Value} {s : Shared} {Q E : Value → Shared → Prop} {e1 : Env} {A₀ : Around}
    {mean : ExcName → Option Value} {mg mb : Str → Option Value} {nx : List (Addr × Obj)} {A : Ad} {σ : Si}
    (B : Below A₀ base [e1] h₀) (F : Fr h₀ L s.heap m) (X : (Kf w.params).In h₀) (T : Top p loose mean mg mb h₀) (hk : cs.kind = .function)
    (N : News h₀ L s.heap nx) (R : Rep w A σ nx)
    (hc : curOk σ.cur) (h : ∀ h' tk', Fr h₀ L h' m → News h₀ L h' nx → Q (ownV A σ.cur) { s with heap := h', toks := tk' }) :
    wpAny (model PySem.Challenge.rw_np0094_01.row.prog w) (Ar 303 10 cn cs L a ccd cl [e1]) (call (.ref 809) [.ref A.wo]) Q E s := by
  refine GoalP.out ?_
  simp (disch := k_dflt (walk_at "mine now")) only [↓goalP_of]

-- 51_small
example : True := by
  k_with "mine now" =>
    walk_at "mine stat"
    obtain ⟨vs, c, jsr, hall⟩ := RR.sr
    have hlen := hall.length
    have hsz : vs.length ≤ 100 := by have := hf.2.2.2.2.2; omega
    revert X; k_fill; intro X
    refine wpAny_call ?_
    k_dflt ktr_enter
    refine wpAny_noRaise ?_
    repeat' (walk_at "mine step")
    rw [← hlen] at h
    exact h _ _ _ (by assumption) (by assumption)

  trivial
theorem depth_c {w : World} {p : Program} {loose : List Str} {cn : Str} {cs : Scope} {a : Addr} {ccd : Value} {cl : List (Str × Addr)} {base h₀ : Heap} {L : Addr} {m : Str → Option Value} {s : Shared} {Q E : Value → Shared → Prop} 
    {mean : ExcName → Option Value} {mg mb : Str → Option Value} {nx : List (Addr × Obj)} {A : Ad} {σ : Si}
    (B : Below callerA base [] h₀) (F : Fr h₀ L s.heap m) (X : (Kf w.params).In h₀) (T : Top p loose mean mg mb h₀) (hk : cs.kind = .function)
    (N : News h₀ L s.heap nx) (R : Rep w A σ nx)
    (hf : σ.Fits 100) (h : ∀ t h' tk', Fr h₀ L h' m → News h₀ L h' nx → Q (.int (σ.S.length : Int) t) { s with heap := h', toks := tk' }) :
    wpAny (model PySem.Challenge.rw_np0094_01.row.prog w) (Ar 302 7 cn cs L a ccd cl []) (call (.ref 411) [.ref A.sk]) Q E s := by
  refine GoalP.out ?_
  simp (disch := k_dflt (walk_at "mine now")) only [↓goalP_of]

-- 52_ml
example : True := by
  k_with "mine now" =>
    revert X; k_fill; intro X
    refine wpAny_call ?_
    k_dflt ktr_enter
    refine wpAny_noRaise ?_
    repeat' (walk_at "mine step")
    · rename Option.isSome _ = true => hl
      exact h _ _ _ _ (by assumption) (by assumption) ⟨_, hox, hfx⟩ (by rw [if_pos hl])
    · rename Option.isSome _ = false => hl
      exact h _ _ _ _ (by assumption) (by assumption) ⟨_, by assumption, by assumption⟩ (by rw [if_neg (by rw [hl]; exact Bool.false_ne_true)])
  trivial
theorem make_local_raw {w : World} {p : Program} {loose : List Str} {cn : Str} {cs : Scope} {a : Addr} {ccd : Value} {cl : List (Str × Addr)} {base h₀ : Heap} {L : Addr} {m : Str → Option Value} {s : Shared} {Q E : Value → Shared → Prop} 
    {mean : ExcName → Option Value} {mg mb : Str → Option Value} {ex : List (Addr × Obj)}
    (B : Below callerA base [] h₀) (F : Fr h₀ L s.heap m) (X : (Kf w.params).In h₀) (T : Top p loose mean mg mb h₀) (hk : cs.kind = .function)
    {va vd dd au pe x xd xv : Addr} {od ox : Obj} {Dd Dx : List (PyData × PyData)} {kd kx : List (Int × Value)} {t1 t2 t3 t4 tk : Tok} {k : Int}
    (N : News h₀ L s.heap ((xv, ox) :: ex)) (hx : ∀ p ∈ ex, p.1 ≠ xv) (m1 : (va, instObj 281 vd) ∈ ex) (m2 : (vd, dictOf [en w "defaults" t1 (.ref dd), en w "automatic" t2 (.ref au), en w "permanent" t3 (.ref pe)] 3) ∈ ex) (m3 : (dd, od) ∈ ex)
    (hod : od.IsDictOf (intKind PySem.Challenge.rw_np0094_01.row.prog w) kd) (hfd : PyProof.V.FlatPairs PyData.int kd Dd) (lod : (dd == sysModules) = false)
    (m4 : (x, instObj 337 xd) ∈ ex) (m5 : (xd, dictOf [en w "values" t4 (.ref xv)] 1) ∈ ex)
    (hox : ox.IsDictOf (intKind PySem.Challenge.rw_np0094_01.row.prog w) kx) (hfx : PyProof.V.FlatPairs PyData.int kx Dx) (lox : (xv == sysModules) = false) (hz : Dx.length ≤ 500)
    (h : ∀ h' tk' o' D', Fr h₀ L h' m → News h₀ L h' ((xv, o') :: ex) → IT w o' D' → D' = (if (Spec.lookup (.int k) Dx).isSome = true then Dx else PyProof.V.putD (.int k) ((Spec.lookup (.int k) Dd).getD .none) Dx) → Q .none { s with heap := h', toks := tk' }) :
    wpAny (model PySem.Challenge.rw_np0094_01.row.prog w) (Ar 302 7 cn cs L a ccd cl []) (call (.ref 320) [.ref x, .ref va, .int k tk]) Q E s := by
  refine GoalP.out ?_
  simp (disch := k_dflt (walk_at "mine now")) only [↓goalP_of]

example : True := by
  k_with "mine now" =>
    revert X; k_fill; intro X
    refine wpAny_call ?_
    k_dflt ktr_enter
    refine wpAny_noRaise ?_
    repeat' (walk_at "mine step")
    · exact h _ _ _ _ (by assumption) (by assumption) ⟨_, by assumption, by assumption⟩ (by assumption) (by assumption)
    · rename Option.isSome _ = false => hl
      exact h _ _ _ _ (by assumption) (by assumption) ⟨_, hox, hfx⟩ (Nat.le_refl _) (fun k' => by
        by_cases e : k' = k
        · rw [if_pos e, e]; exact none_of hl
        · rw [if_neg e])

  trivial
theorem kill_raw {w : World} {p : Program} {loose : List Str} {cn : Str} {cs : Scope} {a : Addr} {ccd : Value} {cl : List (Str × Addr)} {base h₀ : Heap} {L : Addr} {m : Str → Option Value} {s : Shared} {Q E : Value → Shared → Prop} 
    {mean : ExcName → Option Value} {mg mb : Str → Option Value} {ex : List (Addr × Obj)}
    (B : Below callerA base [] h₀) (F : Fr h₀ L s.heap m) (X : (Kf w.params).In h₀) (T : Top p loose mean mg mb h₀) (hk : cs.kind = .function)
    {x xd xv : Addr} {ox : Obj} {Dx : List (PyData × PyData)} {kx : List (Int × Value)} {t4 tk : Tok} {k : Int}
    (N : News h₀ L s.heap ((xv, ox) :: ex)) (hx : ∀ p ∈ ex, p.1 ≠ xv) (m4 : (x, instObj 337 xd) ∈ ex) (m5 : (xd, dictOf [en w "values" t4 (.ref xv)] 1) ∈ ex)
    (hox : ox.IsDictOf (intKind PySem.Challenge.rw_np0094_01.row.prog w) kx) (hfx : PyProof.V.FlatPairs PyData.int kx Dx) (lox : (xv == sysModules) = false) (hz : Dx.length ≤ 500)
    (h : ∀ h' tk' o' D', Fr h₀ L h' m → News h₀ L h' ((xv, o') :: ex) → IT w o' D' → D'.length ≤ Dx.length → (∀ k', Spec.lookup (.int k') D' = if k' = k then none else Spec.lookup (.int k') Dx) → Q .none { s with heap := h', toks := tk' }) :
    wpAny (model PySem.Challenge.rw_np0094_01.row.prog w) (Ar 302 7 cn cs L a ccd cl []) (call (.ref 327) [.ref x, .int k tk]) Q E s := by
  refine GoalP.out ?_
  simp (disch := k_dflt (walk_at "mine now")) only [↓goalP_of]

-- 53_set
theorem use_hx {P : Prop} {l : List (Addr × Obj)} {a : Addr} (h : P → ∀ p ∈ l, p.1 ≠ a) (q : P) : ∀ p ∈ l, p.1 ≠ a := h q
section
example : True := by
  k_with "k_all" => exact use_hx (by assumption) (by assumption)
  trivial
example : True := by
  k_with "mine now" =>
    revert X; k_fill; intro X
    refine wpAny_call ?_
    k_dflt ktr_enter
    refine wpAny_noRaise ?_
    repeat' (walk_at "mine step")
    · rename Option.isSome _ = true => hl
      exact h1 hl _ _ _ (by assumption) (by assumption) ⟨_, by assumption, by assumption⟩
    · rename Option.isSome _ = true => hl
      exact absurd hl Bool.false_ne_true
    · rename Option.isSome (Spec.lookup _ Dx) = false => hl
      exact h2 hl _ _ _ (by assumption) (by assumption) ⟨_, by assumption, by assumption⟩
  trivial
theorem set_in_raw {w : World} {p : Program} {loose : List Str} {cn : Str} {cs : Scope} {a : Addr} {ccd : Value} {cl : List (Str × Addr)} {base h₀ : Heap} {L : Addr} {m : Str → Option Value} {s : Shared} {Q E : Value → Shared → Prop} 
    {mean : ExcName → Option Value} {mg mb : Str → Option Value} {ex : List (Addr × Obj)}
    (B : Below callerA base [] h₀) (F : Fr h₀ L s.heap m) (X : (Kf w.params).In h₀) (T : Top p loose mean mg mb h₀) (hk : cs.kind = .function)
    {va vd dd au pe x xd xv : Addr} {od ox oa : Obj} {Dd Dx : List (PyData × PyData)} {kd kx ka : List (Int × Value)} {t1 t2 t3 t4 tk : Tok} {k : Int} {v : Value} {d : PyData}
    (N : News h₀ L s.heap ((dd, od) :: (xv, ox) :: ex)) (hx : (Spec.lookup (.int k) Dx).isSome = true → ∀ p ∈ ex, p.1 ≠ xv) (hx2 : ∀ p ∈ ex, p.1 ≠ dd) (hne : @Ne Nat dd xv) (m1 : (va, instObj 281 vd) ∈ ex) (m2 : (vd, dictOf [en w "defaults" t1 (.ref dd), en w "automatic" t2 (.ref au), en w "permanent" t3 (.ref pe)] 3) ∈ ex)
    (hod : od.IsDictOf (intKind PySem.Challenge.rw_np0094_01.row.prog w) kd) (hfd : PyProof.V.FlatPairs PyData.int kd Dd) (lod : (dd == sysModules) = false)
    (m4 : (x, instObj 337 xd) ∈ ex) (m5 : (xd, dictOf [en w "values" t4 (.ref xv)] 1) ∈ ex)
    (hox : ox.IsDictOf (intKind PySem.Challenge.rw_np0094_01.row.prog w) kx) (hfx : PyProof.V.FlatPairs PyData.int kx Dx) (lox : (xv == sysModules) = false) (hz : Dx.length ≤ 500) (hz2 : Dd.length ≤ 500) (hv : PyProof.V.Flat v d)
    (m6 : (au, oa) ∈ ex) (hoa : oa.IsDictOf (intKind PySem.Challenge.rw_np0094_01.row.prog w) ka) (hfa : PyProof.V.FlatPairs PyData.int ka []) (loa : (au == sysModules) = false)
    (h1 : (Spec.lookup (.int k) Dx).isSome = true → ∀ h' tk' o', Fr h₀ L h' m → News h₀ L h' ((dd, od) :: (xv, o') :: ex) → IT w o' (PyProof.V.putD (.int k) d Dx) → Q .none { s with heap := h', toks := tk' })
    (h2 : (Spec.lookup (.int k) Dx).isSome = false → ∀ h' tk' o', Fr h₀ L h' m → News h₀ L h' ((dd, o') :: (xv, ox) :: ex) → IT w o' (PyProof.V.putD (.int k) d Dd) → Q .none { s with heap := h', toks := tk' }) :
    wpAny (model PySem.Challenge.rw_np0094_01.row.prog w) (Ar 302 7 cn cs L a ccd cl []) (call (.ref 355) [.ref va, .ref x, .int k tk, v]) Q E s := by
  refine GoalP.out ?_
  simp (disch := k_dflt (walk_at "mine now")) only [↓goalP_of]

example : True := by
  k_with "mine now" =>
    revert X; k_fill; intro X
    refine wpAny_call ?_
    k_dflt ktr_enter
    refine wpAny_noRaise ?_
    repeat' (walk_at "mine step")
    · rename Option.isSome _ = true => hl
      exact h1 hl _ _ _ _ _ _ _ _ _ _ _ _ _ (by assumption) (by assumption) (by assumption) (by assumption) (by assumption) (by assumption) ⟨_, by assumption, by assumption⟩
    · rename Option.isSome _ = false => hl
      exact h2 hl _ _ _ _ _ _ _ _ _ _ _ _ (by assumption) (by assumption) (by assumption) (by assumption) (by assumption) ⟨_, by assumption, by assumption⟩
  trivial
theorem bind_raw {w : World} {p : Program} {loose : List Str} {cn : Str} {cs : Scope} {a : Addr} {ccd : Value} {cl : List (Str × Addr)} {base h₀ : Heap} {L : Addr} {m : Str → Option Value} {s : Shared} {Q E : Value → Shared → Prop} {e1 : Env} {A₀ : Around}
    {mean : ExcName → Option Value} {mg mb : Str → Option Value} {ex : List (Addr × Obj)}
    (B : Below A₀ base [e1] h₀) (F : Fr h₀ L s.heap m) (X : (Kf w.params).In h₀) (T : Top p loose mean mg mb h₀) (hk : cs.kind = .function)
    {va vd dd au pe x xd xv : Addr} {od ox oa : Obj} {Dd Dx : List (PyData × PyData)} {kd kx ka : List (Int × Value)} {t1 t2 t3 t4 tk : Tok} {k : Int} {v : Value} {d : PyData}
    (N : News h₀ L s.heap ((dd, od) :: (xv, ox) :: ex)) (hx : (Spec.lookup (.int k) Dx).isSome = true → ∀ p ∈ ex, p.1 ≠ xv) (hx2 : ∀ p ∈ ex, p.1 ≠ dd) (hne : @Ne Nat dd xv) (m1 : (va, instObj 281 vd) ∈ ex) (m2 : (vd, dictOf [en w "defaults" t1 (.ref dd), en w "automatic" t2 (.ref au), en w "permanent" t3 (.ref pe)] 3) ∈ ex)
    (hod : od.IsDictOf (intKind PySem.Challenge.rw_np0094_01.row.prog w) kd) (hfd : PyProof.V.FlatPairs PyData.int kd Dd) (lod : (dd == sysModules) = false)
    (m4 : (x, instObj 337 xd) ∈ ex) (m5 : (xd, dictOf [en w "values" t4 (.ref xv)] 1) ∈ ex)
    (hox : ox.IsDictOf (intKind PySem.Challenge.rw_np0094_01.row.prog w) kx) (hfx : PyProof.V.FlatPairs PyData.int kx Dx) (lox : (xv == sysModules) = false) (hz : Dx.length ≤ 500) (hz2 : Dd.length ≤ 500) (hv : PyProof.V.Flat v d)
    (h1 : (Spec.lookup (.int k) Dx).isSome = true → ∀ (b bd : Addr) t1 t2 t3 t4 t5 t6 y dy h' tk' o', Fr h₀ L h' m → News h₀ L h' ((b, instObj 372 bd) :: (bd, dictOf [en w "sort" t1 (.int 0 t2), en w "own" t3 (.ref x), en w "symbol" t4 (.int k t5), en w "value" t6 y] 4) :: (dd, od) :: (xv, o') :: ex) →
      AllLt bd ((dd, od) :: (xv, ox) :: ex) → @LT.lt Nat _ bd b → Spec.lookup (.int k) Dx = some dy → PyProof.V.Flat y dy → IT w o' (PyProof.V.putD (.int k) d Dx) → Q (.ref b) { s with heap := h', toks := tk' })
    (h2 : (Spec.lookup (.int k) Dx).isSome = false → ∀ (b bd : Addr) t1 t2 t3 t4 t5 t6 y h' tk' o', Fr h₀ L h' m → News h₀ L h' ((b, instObj 372 bd) :: (bd, dictOf [en w "sort" t1 (.int 1 t2), en w "own" t3 .none, en w "symbol" t4 (.int k t5), en w "value" t6 y] 4) :: (dd, o') :: (xv, ox) :: ex) →
      AllLt bd ((dd, od) :: (xv, ox) :: ex) → @LT.lt Nat _ bd b → PyProof.V.Flat y ((Spec.lookup (.int k) Dd).getD .none) → IT w o' (PyProof.V.putD (.int k) d Dd) → Q (.ref b) { s with heap := h', toks := tk' }) :
    wpAny (model PySem.Challenge.rw_np0094_01.row.prog w) (Ar 303 10 cn cs L a ccd cl [e1]) (call (.ref 383) [.ref va, .ref x, .int k tk, v]) Q E s := by
  refine GoalP.out ?_
  simp (disch := k_dflt (walk_at "mine now")) only [↓goalP_of]

end

example : True := by
  k_with_none
  k_with "mine c" => with_reducible first | assumption | exact And.left (by assumption) | exact And.left (And.right (by assumption)) | exact And.left (And.right (And.right (by assumption))) | exact And.left (And.right (And.right (And.right (by assumption)))) | exact And.left (And.right (And.right (And.right (And.right (by assumption))))) | exact And.left (And.right (And.right (And.right (And.right (And.right (by assumption)))))) | exact And.left (And.right (And.right (And.right (And.right (And.right (And.right (by assumption))))))) | exact And.left (And.right (And.right (And.right (And.right (And.right (And.right (And.right (by assumption)))))))) | exact And.left (And.right (And.right (And.right (And.right (And.right (And.right (And.right (And.right (by assumption))))))))) | exact And.left (And.right (And.right (And.right (And.right (And.right (And.right (And.right (And.right (And.right (by assumption)))))))))) | exact And.left (And.right (And.right (And.right (And.right (And.right (And.right (And.right (And.right (And.right (And.right (by assumption))))))))))) | exact And.left (And.right (And.right (And.right (And.right (And.right (And.right (And.right (And.right (And.right (And.right (And.right (by assumption)))))))))))) | exact And.left (And.right (And.right (And.right (And.right (And.right (And.right (And.right (And.right (And.right (And.right (And.right (And.right (by assumption))))))))))))) | exact And.left (And.right (And.right (And.right (And.right (And.right (And.right (And.right (And.right (And.right (And.right (And.right (And.right (And.right (by assumption)))))))))))))) | exact And.right (by assumption) | exact And.right (And.right (by assumption)) | exact And.right (And.right (And.right (by assumption))) | exact And.right (And.right (And.right (And.right (by assumption)))) | exact And.right (And.right (And.right (And.right (And.right (by assumption))))) | exact And.right (And.right (And.right (And.right (And.right (And.right (by assumption)))))) | exact And.right (And.right (And.right (And.right (And.right (And.right (And.right (by assumption)))))))
  k_with "k_all" => first | assumption | exact fun p hp => Nat.ne_of_lt (tb_ltOf (by assumption) p hp) | exact fun p hp => Nat.ne_of_gt (tb_ltOf (by assumption) p hp) | ((repeat (rename _ ∧ _ => q; cases q)); exact fun p hp => Nat.ne_of_lt (tb_ltOf (by assumption) p hp)) | ((repeat (rename _ ∧ _ => q; cases q)); exact fun p hp => Nat.ne_of_gt (tb_ltOf (by assumption) p hp))
  k_with "mine sub" => (intro p hp; (repeat first | exact hp | refine List.Mem.tail _ ?_))
  k_with "mine opt" => first | assumption | exact isOpt_none | exact isOpt_int _ _
  k_with "mine tk" => first | assumption | exact Mine.tk2 (by walk_at "mine opt") (by walk_at "mine opt")
  k_with "compareOp In ref ref" => (k_here; k_dflt (refine rows_in (by exact Nat.le_of_ble_eq_true rfl) (by k_asm) (by assumption) (by walk_at "mine sub") (by k_mem) (by assumption) (by k_mem) (by walk_at "mine tk") ?_; k_whole))
  k_with "compareOp NotIn ref ref" => (k_here; k_dflt (refine rows_notin (by exact Nat.le_of_ble_eq_true rfl) (by k_asm) (by assumption) (by walk_at "mine sub") (by k_mem) (by assumption) (by k_mem) (by walk_at "mine tk") ?_; k_whole))
  k_with "call builtin:dict.get" => (k_here; k_dflt (refine rows_get (by exact Nat.le_of_ble_eq_true rfl) (by k_asm) (by assumption) (by walk_at "mine sub") (by k_mem) (by assumption) (by k_mem) (by walk_at "mine tk") ?_; k_whole); intro v' hv')
  k_with "getMethod ref" => (k_here; (with_reducible show wpAny _ _ (getMethod (Value.ref _) _ _) _ _ _); k_dflt (refine rows_meth (by first | exact PySem.F.slot_dict_get | exact PySem.F.slot_dict_pop) (by rfl) (by k_asm) (by assumption) (by walk_at "mine sub") (by k_mem) (by assumption) ?_; k_whole))
  k_with "subscriptTail" => (k_here; (with_reducible show wpAny _ _ (subscriptTail _ _ (Value.ref _) (Value.ref _)) _ _ _); k_dflt (refine rows_itemS (by exact Nat.le_of_ble_eq_true rfl) (by k_asm) (by assumption) (by walk_at "mine sub") (by k_mem) (by assumption) (by k_mem) (by walk_at "mine tk") (by assumption) ?_ (by with_unfolding_all rfl) (by (intro _; with_unfolding_all rfl)); k_whole); intro v' d' hl' hv')
  k_with "call builtin:len" => (k_here; (with_reducible show wpAny _ _ (call (Value.builtin "len") [Value.ref _]) _ _ _); k_dflt (refine lenL (by k_asm) (by k_mem) (by omega) ?_; k_whole); intro t' tk')
  k_with "call builtin:dict.pop" => (k_here; (with_reducible show wpAny _ _ (call (Value.builtin _) [Value.ref _, Value.int _ _]) _ _ _); k_dflt (refine popI (by k_asm) (by k_asm) (by k_updF) (by assumption) (by assumption) (by assumption) (by omega) ?_; k_whole); intro h' o' v' kvs' D' F' N' hd' hf' hn' hl'; (try dsimp only at N'))
  k_with "setItem ref int" => (k_here; k_dflt (refine setItem_K PyProof.V.same_int (intKind_is _ _ _ _) (by k_flat) (by k_asm) (by k_asm) (by k_updF) (by assumption) (by assumption) ?_ (by (rw [sizeLine_eq]; omega)); ); intro h' o' F' N' hd' hf'; (try dsimp only at N'))
  k_with "call builtin:list.pop" => (k_here; k_dflt (refine pop0 (by k_asm) (by k_asm) (by k_upd) (by (have hq := IntsAre.length (by assumption); rw [sizeLine_eq]; simp only [List.length_cons] at *; omega)) ?_; k_whole); intro h' F' N'; (try dsimp only [List.nil_append, List.cons_append] at N'))
  k_with "call builtin:list.append" => (k_here; (with_reducible show wpAny _ _ (call (Value.builtin _) [Value.ref _, _]) _ _ _); k_dflt (refine appF (by k_asm) (by k_asm) (by first | omega | (simp only [List.length_append, List.length_cons, List.length_nil]; omega)) (by k_upd) ?_; k_whole); intro h' F' N'; (try dsimp only [List.nil_append, List.cons_append] at N'))
  k_with "getItem ref int" => (k_here; k_dflt (refine getItem_some PyProof.V.same_int (intKind_is _ _ _ _) (by k_tabat) (by assumption) ?_; k_whole); intro v' d' hl' hv')
  k_with "mine stat" => (rename Rep _ _ _ _ => RR; refine Rep.use RR ?_; intro hS1 hS2 hS3 oS4 hS4 kS4 hS4' hS4'' hS5 hS6 oS7 hS7 kS7 hS7' hS7'' hS8 hS9 esS10 nS10 hS10 hS10' hS11 hS12 hS13 esS14 nS14 hS14 hS14' hS15 hS16 hS17 hS18 hS19 hS20 hS21 hS22 hS23 hS24 hS25 hS26 gS1 gS2 gS3 gS4 gS5 gS6)
  k_with "mine statS" => (rename Stat _ _ _ => SS; refine Stat.use SS ?_; intro hS1 hS2 hS3 oS4 hS4 kS4 hS4' hS4'' hS5 hS6 oS7 hS7 kS7 hS7' hS7'' hS8 hS9 esS10 nS10 hS10 hS10' hS11 hS12 hS13 esS14 nS14 hS14 hS14' hS15 hS16 hS17 hS18 hS19 hS20 hS21 hS22 hS23 hS24 hS25 hS26 gS1 gS2 gS3 gS4 gS5 gS6)
  k_with "mine dyn" => (rename Rep _ _ _ _ => RR; refine Rep.dyn RR ?_; intro jS1 odS jS2 kdS jS2' jS2'' o0S jS3 k0S jS3' jS3'' o1S jS4 k1S jS4' jS4'')
  k_with "mine fr" => (intro z q1 q2; (try dsimp only); first | (rw [if_neg q1, q2]; rfl) | (have q3 := q2; simp only [List.contains_cons, List.contains_nil, Bool.or_false, Bool.or_eq_false_iff, beq_eq_false_iff_ne, ne_eq] at q3; simp only [q1, q2, q3, if_false, List.contains_nil, Bool.false_eq_true]))
  k_with "mine frw" => (intro z q2; (try dsimp only); have q3 := q2; simp only [List.contains_cons, List.contains_nil, Bool.or_false, Bool.or_eq_false_iff, beq_eq_false_iff_ne, ne_eq] at q3; simp only [q2, q3, if_false, List.contains_nil, Bool.false_eq_true])
  k_with "k_handed" => exact flat_handed (by assumption)
  k_with "k_get" => assumption
  k_with "execs cons" => (k_here; first | k_gentoks | (refine execsG ?_; intro Q' hn hr))
  k_with "k_mem" => (change (_ : Addr × Obj) ∈ (_ : List (Addr × Obj)); ktr_member)
  trivial
-- 53b_bare
theorem News.drop1 {h₀ h : Heap} {L : Addr} {p q : Addr × Obj} {y : List (Addr × Obj)} (a : News h₀ L h (p :: q :: y)) : News h₀ L h (p :: y) := News.cons1 (a p (.head _)) (News.tail (News.tail a))
theorem drop3 {p1 p2 p3 p4 q : Addr × Obj} {y : List (Addr × Obj)} (hq : q ∈ p1 :: p2 :: p3 :: y) : q ∈ p1 :: p2 :: p3 :: p4 :: y := by
  rcases List.mem_cons.mp hq with rfl | hq
  · exact .head _
  · rcases List.mem_cons.mp hq with rfl | hq
    · exact .tail _ (.head _)
    · rcases List.mem_cons.mp hq with rfl | hq
      · exact .tail _ (.tail _ (.head _))
      · exact .tail _ (.tail _ (.tail _ (.tail _ hq)))
theorem set_in_bare_raw {w : World} {p : Program} {loose : List Str} {cn : Str} {cs : Scope} {a : Addr} {ccd : Value} {cl : List (Str × Addr)} {base h₀ : Heap} {L : Addr} {m : Str → Option Value} {s : Shared} {Q E : Value → Shared → Prop} 
    {mean : ExcName → Option Value} {mg mb : Str → Option Value} {ex : List (Addr × Obj)}
    (B : Below callerA base [] h₀) (F : Fr h₀ L s.heap m) (X : (Kf w.params).In h₀) (T : Top p loose mean mg mb h₀) (hk : cs.kind = .function)
    {va vd dd au pe x xd xv : Addr} {od ox oa : Obj} {Dd : List (PyData × PyData)} {kd kx ka : List (Int × Value)} {t1 t2 t3 t4 tk : Tok} {k : Int} {v : Value} {d : PyData}
    (N : News h₀ L s.heap ((dd, od) :: ex)) (mx : (xv, ox) ∈ ex) (hx2 : ∀ p ∈ ex, p.1 ≠ dd) (m1 : (va, instObj 281 vd) ∈ ex) (m2 : (vd, dictOf [en w "defaults" t1 (.ref dd), en w "automatic" t2 (.ref au), en w "permanent" t3 (.ref pe)] 3) ∈ ex)
    (hod : od.IsDictOf (intKind PySem.Challenge.rw_np0094_01.row.prog w) kd) (hfd : PyProof.V.FlatPairs PyData.int kd Dd) (lod : (dd == sysModules) = false)
    (m4 : (x, instObj 337 xd) ∈ ex) (m5 : (xd, dictOf [en w "values" t4 (.ref xv)] 1) ∈ ex)
    (hox : ox.IsDictOf (intKind PySem.Challenge.rw_np0094_01.row.prog w) kx) (hfx : PyProof.V.FlatPairs PyData.int kx []) (lox : (xv == sysModules) = false) (hz2 : Dd.length ≤ 500) (hv : PyProof.V.Flat v d)
    (m6 : (au, oa) ∈ ex) (hoa : oa.IsDictOf (intKind PySem.Challenge.rw_np0094_01.row.prog w) ka) (hfa : PyProof.V.FlatPairs PyData.int ka []) (loa : (au == sysModules) = false)
    (h2 : ∀ h' tk' o', Fr h₀ L h' m → News h₀ L h' ((dd, o') :: ex) → IT w o' (PyProof.V.putD (.int k) d Dd) → Q .none { s with heap := h', toks := tk' }) :
    wpAny (model PySem.Challenge.rw_np0094_01.row.prog w) (Ar 302 7 cn cs L a ccd cl []) (call (.ref 355) [.ref va, .ref x, .int k tk, v]) Q E s := by
  have N2 : News h₀ L s.heap ((dd, od) :: (xv, ox) :: ex) := News.cons1 (N _ (.head _)) (News.cons1 (N _ (.tail _ mx)) (News.tail N))
  exact set_in_raw (Dx := []) (oa := oa) (ka := ka) B F X T hk N2 (fun q => absurd q Bool.false_ne_true) hx2 (fun q => hx2 _ mx q.symm) m1 m2 hod hfd lod m4 m5 hox hfx lox (Nat.zero_le _) hz2 hv m6 hoa hfa loa
    (fun q => absurd q Bool.false_ne_true) fun _ h' tk' o' F' N' hIT => h2 h' tk' o' F' (News.drop1 N') hIT
theorem bind_bare_raw {w : World} {p : Program} {loose : List Str} {cn : Str} {cs : Scope} {a : Addr} {ccd : Value} {cl : List (Str × Addr)} {base h₀ : Heap} {L : Addr} {m : Str → Option Value} {s : Shared} {Q E : Value → Shared → Prop} {e1 : Env} {A₀ : Around}
    {mean : ExcName → Option Value} {mg mb : Str → Option Value} {ex : List (Addr × Obj)}
    (B : Below A₀ base [e1] h₀) (F : Fr h₀ L s.heap m) (X : (Kf w.params).In h₀) (T : Top p loose mean mg mb h₀) (hk : cs.kind = .function)
    {va vd dd au pe x xd xv : Addr} {od ox oa : Obj} {Dd : List (PyData × PyData)} {kd kx ka : List (Int × Value)} {t1 t2 t3 t4 tk : Tok} {k : Int} {v : Value} {d : PyData}
    (N : News h₀ L s.heap ((dd, od) :: ex)) (mx : (xv, ox) ∈ ex) (hx2 : ∀ p ∈ ex, p.1 ≠ dd) (m1 : (va, instObj 281 vd) ∈ ex) (m2 : (vd, dictOf [en w "defaults" t1 (.ref dd), en w "automatic" t2 (.ref au), en w "permanent" t3 (.ref pe)] 3) ∈ ex)
    (hod : od.IsDictOf (intKind PySem.Challenge.rw_np0094_01.row.prog w) kd) (hfd : PyProof.V.FlatPairs PyData.int kd Dd) (lod : (dd == sysModules) = false)
    (m4 : (x, instObj 337 xd) ∈ ex) (m5 : (xd, dictOf [en w "values" t4 (.ref xv)] 1) ∈ ex)
    (hox : ox.IsDictOf (intKind PySem.Challenge.rw_np0094_01.row.prog w) kx) (hfx : PyProof.V.FlatPairs PyData.int kx []) (lox : (xv == sysModules) = false) (hz2 : Dd.length ≤ 500) (hv : PyProof.V.Flat v d)
    (h2 : ∀ (b bd : Addr) t1 t2 t3 t4 t5 t6 y h' tk' o', Fr h₀ L h' m → News h₀ L h' ((b, instObj 372 bd) :: (bd, dictOf [en w "sort" t1 (.int 1 t2), en w "own" t3 .none, en w "symbol" t4 (.int k t5), en w "value" t6 y] 4) :: (dd, o') :: ex) →
      AllLt bd ((dd, od) :: ex) → @LT.lt Nat _ bd b → PyProof.V.Flat y ((Spec.lookup (.int k) Dd).getD .none) → IT w o' (PyProof.V.putD (.int k) d Dd) → Q (.ref b) { s with heap := h', toks := tk' }) :
    wpAny (model PySem.Challenge.rw_np0094_01.row.prog w) (Ar 303 10 cn cs L a ccd cl [e1]) (call (.ref 383) [.ref va, .ref x, .int k tk, v]) Q E s := by
  have N2 : News h₀ L s.heap ((dd, od) :: (xv, ox) :: ex) := News.cons1 (N _ (.head _)) (News.cons1 (N _ (.tail _ mx)) (News.tail N))
  exact bind_raw (Dx := []) (oa := oa) (ka := ka) B F X T hk N2 (fun q => absurd q Bool.false_ne_true) hx2 (fun q => hx2 _ mx q.symm) m1 m2 hod hfd lod m4 m5 hox hfx lox (Nat.zero_le _) hz2 hv
    (fun q => absurd q Bool.false_ne_true) fun _ b bd t1 t2 t3 t4 t5 t6 y h' tk' o' F' N' hlt hb hy hIT => h2 b bd t1 t2 t3 t4 t5 t6 y h' tk' o' F' (fun q hq => N' q (drop3 hq)) ⟨hlt.1, hlt.2.2⟩ hb hy hIT

-- 54_unbind
example : True := by
  k_with "mine now" =>
    revert X; k_fill; intro X
    refine wpAny_call ?_
    k_dflt ktr_enter
    refine wpAny_noRaise ?_
    repeat' (walk_at "mine step")
    · rename Option.isSome _ = true => hl
      exact h _ _ _ _ (by assumption) (by assumption) ⟨_, by assumption, by assumption⟩ (by rw [if_pos hl])
    · rename Option.isSome _ = false => hl
      exact h _ _ _ _ (by assumption) (by assumption) ⟨_, hox, hfx⟩ (by rw [if_neg (by rw [hl]; exact Bool.false_ne_true)])
  trivial
theorem unbind_l_raw {w : World} {p : Program} {loose : List Str} {cn : Str} {cs : Scope} {a : Addr} {ccd : Value} {cl : List (Str × Addr)} {base h₀ : Heap} {L : Addr} {m : Str → Option Value} {s : Shared} {Q E : Value → Shared → Prop} {e1 : Env} {A₀ : Around}
    {mean : ExcName → Option Value} {mg mb : Str → Option Value} {ex : List (Addr × Obj)}
    (B : Below A₀ base [e1] h₀) (F : Fr h₀ L s.heap m) (X : (Kf w.params).In h₀) (T : Top p loose mean mg mb h₀) (hk : cs.kind = .function)
    {va x xd xv b bd : Addr} {ox : Obj} {Dx : List (PyData × PyData)} {kx : List (Int × Value)} {t4 t5 t6 t7 t8 t9 u1 : Tok} {k : Int} {v : Value} {d : PyData}
    (N : News h₀ L s.heap ((xv, ox) :: ex)) (hx : ∀ p ∈ ex, p.1 ≠ xv)
    (m4 : (x, instObj 337 xd) ∈ ex) (m5 : (xd, dictOf [en w "values" t4 (.ref xv)] 1) ∈ ex)
    (hox : ox.IsDictOf (intKind PySem.Challenge.rw_np0094_01.row.prog w) kx) (hfx : PyProof.V.FlatPairs PyData.int kx Dx) (lox : (xv == sysModules) = false) (hz : Dx.length ≤ 500) (hv : PyProof.V.Flat v d)
    (m7 : (b, instObj 372 bd) ∈ ex) (m8 : (bd, dictOf [en w "sort" t5 (.int 0 u1), en w "own" t6 (.ref x), en w "symbol" t7 (.int k t8), en w "value" t9 v] 4) ∈ ex)
    (h : ∀ h' tk' o' D', Fr h₀ L h' m → News h₀ L h' ((xv, o') :: ex) → IT w o' D' → D' = (if (Spec.lookup (.int k) Dx).isSome = true then PyProof.V.putD (.int k) d Dx else Dx) → Q .none { s with heap := h', toks := tk' }) :
    wpAny (model PySem.Challenge.rw_np0094_01.row.prog w) (Ar 303 10 cn cs L a ccd cl [e1]) (call (.ref 390) [.ref va, .ref b]) Q E s := by
  refine GoalP.out ?_
  simp (disch := k_dflt (walk_at "mine now")) only [↓goalP_of]

example : True := by
  k_with "mine now" =>
    revert X; k_fill; intro X
    refine wpAny_call ?_
    k_dflt ktr_enter
    refine wpAny_noRaise ?_
    repeat' (walk_at "mine step")
    exact h _ _ _ (by assumption) (by assumption) ⟨_, by assumption, by assumption⟩

  trivial
theorem unbind_d_raw {w : World} {p : Program} {loose : List Str} {cn : Str} {cs : Scope} {a : Addr} {ccd : Value} {cl : List (Str × Addr)} {base h₀ : Heap} {L : Addr} {m : Str → Option Value} {s : Shared} {Q E : Value → Shared → Prop} {e1 : Env} {A₀ : Around}
    {mean : ExcName → Option Value} {mg mb : Str → Option Value} {ex : List (Addr × Obj)}
    (B : Below A₀ base [e1] h₀) (F : Fr h₀ L s.heap m) (X : (Kf w.params).In h₀) (T : Top p loose mean mg mb h₀) (hk : cs.kind = .function)
    {va vd dd au pe b bd : Addr} {od : Obj} {Dd : List (PyData × PyData)} {kd : List (Int × Value)} {t1 t2 t3 t5 t6 t7 t8 t9 u1 : Tok} {k : Int} {v : Value} {d : PyData}
    (N : News h₀ L s.heap ((dd, od) :: ex)) (hx : ∀ p ∈ ex, p.1 ≠ dd)
    (m1 : (va, instObj 281 vd) ∈ ex) (m2 : (vd, dictOf [en w "defaults" t1 (.ref dd), en w "automatic" t2 (.ref au), en w "permanent" t3 (.ref pe)] 3) ∈ ex)
    (hod : od.IsDictOf (intKind PySem.Challenge.rw_np0094_01.row.prog w) kd) (hfd : PyProof.V.FlatPairs PyData.int kd Dd) (lod : (dd == sysModules) = false) (hz : Dd.length ≤ 500) (hv : PyProof.V.Flat v d)
    (m7 : (b, instObj 372 bd) ∈ ex) (m8 : (bd, dictOf [en w "sort" t5 (.int 1 u1), en w "own" t6 .none, en w "symbol" t7 (.int k t8), en w "value" t9 v] 4) ∈ ex)
    (h : ∀ h' tk' o', Fr h₀ L h' m → News h₀ L h' ((dd, o') :: ex) → IT w o' (PyProof.V.putD (.int k) d Dd) → Q .none { s with heap := h', toks := tk' }) :
    wpAny (model PySem.Challenge.rw_np0094_01.row.prog w) (Ar 303 10 cn cs L a ccd cl [e1]) (call (.ref 390) [.ref va, .ref b]) Q E s := by
  refine GoalP.out ?_
  simp (disch := k_dflt (walk_at "mine now")) only [↓goalP_of]

-- 55_reps
theorem make_local_c {w : World} {p : Program} {loose : List Str} {cn : Str} {cs : Scope} {a : Addr} {ccd : Value} {cl : List (Str × Addr)} {base h₀ : Heap} {L : Addr} {m : Str → Option Value} {s : Shared} {Q E : Value → Shared → Prop} 
    {mean : ExcName → Option Value} {mg mb : Str → Option Value} {nx : List (Addr × Obj)} {A : Ad} {σ : Si}
    (B : Below callerA base [] h₀) (F : Fr h₀ L s.heap m) (X : (Kf w.params).In h₀) (T : Top p loose mean mg mb h₀) (hk : cs.kind = .function)
    (N : News h₀ L s.heap nx) (R : Rep w A σ nx)
    {lv : Value} {b k : Int} {tk : Tok} (hf : σ.Fits 400) (hb : b = 0 ∨ b = 1) (hlv : lv = ownV A (some b)) (h : ∀ h' tk' nx', Fr h₀ L h' m → News h₀ L h' nx' → Ext A nx nx' → Rep w A (σ.mk1 b k) nx' → Q .none { s with heap := h', toks := tk' }) :
    wpAny (model PySem.Challenge.rw_np0094_01.row.prog w) (Ar 302 7 cn cs L a ccd cl []) (call (.ref 320) [lv, .ref A.va, .int k tk]) Q E s := by
  have ap := Apart.of R.nd
  obtain ⟨od, jd, kd, jd', jd''⟩ := R.dd
  rcases hb with rfl | rfl
  · have hfp := muts1 (A := A) (x := A.v0) (by simp [Ad.muts])
    obtain ⟨o0, j0, k0, j0', j0''⟩ := R.v0
    have SS := R.statB [A.v0] hfp
    have jd1 : (A.dd, od) ∈ butL [A.v0] nx := mem_butL.mpr ⟨jd, ne1 ap.dd_v0⟩
    rw [hlv, show ownV A (some 0) = .ref A.l0 from rfl]
    refine make_local_raw B F X T hk (News.cons1 (N _ j0) (butL_news N)) (butL_ne (.head _)) SS.va SS.vd jd1 jd' jd'' SS.lows.1 SS.l0 SS.f0 j0' j0'' SS.lows.2.2.2.1 (by have := hf.2.1; omega) fun h' tk' o' D' F' N' hIT hD => ?_
    have R' := R.upD0 (fun p hp => .tail _ hp) (.head _) hIT
    refine h h' tk' _ F' N' (Ext.of_but (fun p hp => .tail _ hp) hfp) ?_
    have e : σ.mk1 0 k = { σ with D0 := D' } := by
      rw [hD]
      show (if (Spec.lookup (.int k) σ.D0).isSome = true then σ else { σ with D0 := PyProof.V.putD (.int k) ((Spec.lookup (.int k) σ.Dd).getD .none) σ.D0 }) = _
      split <;> rfl
    rw [e]; exact R'
  · have hfp := muts1 (A := A) (x := A.v1) (by simp [Ad.muts])
    obtain ⟨o0, j0, k0, j0', j0''⟩ := R.v1
    have SS := R.statB [A.v1] hfp
    have jd1 : (A.dd, od) ∈ butL [A.v1] nx := mem_butL.mpr ⟨jd, ne1 ap.dd_v1⟩
    rw [hlv, show ownV A (some 1) = .ref A.l1 from rfl]
    refine make_local_raw B F X T hk (News.cons1 (N _ j0) (butL_news N)) (butL_ne (.head _)) SS.va SS.vd jd1 jd' jd'' SS.lows.1 SS.l1 SS.f1 j0' j0'' SS.lows.2.2.2.2.1 (by have := hf.2.2.1; omega) fun h' tk' o' D' F' N' hIT hD => ?_
    have R' := R.upD1 (fun p hp => .tail _ hp) (.head _) hIT
    refine h h' tk' _ F' N' (Ext.of_but (fun p hp => .tail _ hp) hfp) ?_
    have e : σ.mk1 1 k = { σ with D1 := D' } := by
      rw [hD]
      show (if (Spec.lookup (.int k) σ.D1).isSome = true then σ else { σ with D1 := PyProof.V.putD (.int k) ((Spec.lookup (.int k) σ.Dd).getD .none) σ.D1 }) = _
      split <;> rfl
    rw [e]; exact R'
theorem kill_c {w : World} {p : Program} {loose : List Str} {cn : Str} {cs : Scope} {a : Addr} {ccd : Value} {cl : List (Str × Addr)} {base h₀ : Heap} {L : Addr} {m : Str → Option Value} {s : Shared} {Q E : Value → Shared → Prop} 
    {mean : ExcName → Option Value} {mg mb : Str → Option Value} {nx : List (Addr × Obj)} {A : Ad} {σ : Si}
    (B : Below callerA base [] h₀) (F : Fr h₀ L s.heap m) (X : (Kf w.params).In h₀) (T : Top p loose mean mg mb h₀) (hk : cs.kind = .function)
    (N : News h₀ L s.heap nx) (R : Rep w A σ nx)
    {lv : Value} {b k : Int} {tk : Tok} (hf : σ.Fits 400) (hb : b = 0 ∨ b = 1) (hlv : lv = ownV A (some b)) (h : ∀ h' tk' nx' D', Fr h₀ L h' m → News h₀ L h' nx' → Ext A nx nx' → Rep w A (σ.setOwn b D') nx' → D'.length ≤ (σ.own (some b)).length → (∀ k', Spec.lookup (.int k') D' = if k' = k then none else Spec.lookup (.int k') (σ.own (some b))) → Q .none { s with heap := h', toks := tk' }) :
    wpAny (model PySem.Challenge.rw_np0094_01.row.prog w) (Ar 302 7 cn cs L a ccd cl []) (call (.ref 327) [lv, .int k tk]) Q E s := by
  have ap := Apart.of R.nd
  rcases hb with rfl | rfl
  · have hfp := muts1 (A := A) (x := A.v0) (by simp [Ad.muts])
    obtain ⟨o0, j0, k0, j0', j0''⟩ := R.v0
    have SS := R.statB [A.v0] hfp
    rw [hlv, show ownV A (some 0) = .ref A.l0 from rfl]
    refine kill_raw B F X T hk (News.cons1 (N _ j0) (butL_news N)) (butL_ne (.head _)) SS.l0 SS.f0 j0' j0'' SS.lows.2.2.2.1 (by have := hf.2.1; omega) fun h' tk' o' D' F' N' hIT hlen hlk => ?_
    exact h h' tk' _ D' F' N' (Ext.of_but (fun p hp => .tail _ hp) hfp) (R.upD0 (fun p hp => .tail _ hp) (.head _) hIT) hlen hlk
  · have hfp := muts1 (A := A) (x := A.v1) (by simp [Ad.muts])
    obtain ⟨o0, j0, k0, j0', j0''⟩ := R.v1
    have SS := R.statB [A.v1] hfp
    rw [hlv, show ownV A (some 1) = .ref A.l1 from rfl]
    refine kill_raw B F X T hk (News.cons1 (N _ j0) (butL_news N)) (butL_ne (.head _)) SS.l1 SS.f1 j0' j0'' SS.lows.2.2.2.2.1 (by have := hf.2.2.1; omega) fun h' tk' o' D' F' N' hIT hlen hlk => ?_
    exact h h' tk' _ D' F' N' (Ext.of_but (fun p hp => .tail _ hp) hfp) (R.upD1 (fun p hp => .tail _ hp) (.head _) hIT) hlen hlk
theorem set_in_c {w : World} {p : Program} {loose : List Str} {cn : Str} {cs : Scope} {a : Addr} {ccd : Value} {cl : List (Str × Addr)} {base h₀ : Heap} {L : Addr} {m : Str → Option Value} {s : Shared} {Q E : Value → Shared → Prop} 
    {mean : ExcName → Option Value} {mg mb : Str → Option Value} {nx : List (Addr × Obj)} {A : Ad} {σ : Si}
    (B : Below callerA base [] h₀) (F : Fr h₀ L s.heap m) (X : (Kf w.params).In h₀) (T : Top p loose mean mg mb h₀) (hk : cs.kind = .function)
    (N : News h₀ L s.heap nx) (R : Rep w A σ nx)
    {lv v : Value} {d : PyData} {k : Int} {tk : Tok} (hf : σ.Fits 400) (hc : curOk σ.cur) (hlv : lv = ownV A σ.cur) (hv : PyProof.V.Flat v d) (h : ∀ h' tk' nx', Fr h₀ L h' m → News h₀ L h' nx' → Ext A nx nx' → Rep w A (σ.setD (σ.at k) k d) nx' → Q .none { s with heap := h', toks := tk' }) :
    wpAny (model PySem.Challenge.rw_np0094_01.row.prog w) (Ar 302 7 cn cs L a ccd cl []) (call (.ref 355) [.ref A.va, lv, .int k tk, v]) Q E s := by
  have ap := Apart.of R.nd
  obtain ⟨od, jd, kd, jd', jd''⟩ := R.dd
  have hfd := muts1 (A := A) (x := A.dd) (by simp [Ad.muts])
  have hcc : σ.cur = none ∨ σ.cur = some 0 ∨ σ.cur = some 1 := by
    generalize σ.cur = c at hc
    match c, hc with
    | none, _ => exact .inl rfl
    | some i, hc => exact .inr (hc.imp (congrArg some) (congrArg some))
  rcases hcc with e | e | e
  · have SS := R.statB [A.dd] hfd
    obtain ⟨ob, jb, kb, jb', jb''⟩ := SS.bv
    obtain ⟨oa, ja, ka, ja', ja''⟩ := SS.au
    rw [hlv, e, show ownV A none = .ref A.ba from rfl]
    refine set_in_bare_raw B F X T hk (News.cons1 (N _ jd) (butL_news N)) jb (butL_ne (.head _)) SS.va SS.vd jd' jd'' SS.lows.1 SS.ba SS.bd jb' jb'' SS.lows.2.2.1 (by have := hf.1; omega) hv ja ja' ja'' SS.lows.2.1 fun h' tk' o' F' N' hIT => ?_
    refine h h' tk' _ F' N' (Ext.of_but (fun p hp => .tail _ hp) hfd) ?_
    have ea : σ.at k = none := by unfold Si.at; rw [e]; rfl
    rw [ea]
    exact R.upDd (fun p hp => .tail _ hp) (.head _) hIT
  · have hfp : ∀ a ∈ [A.dd, A.v0], a ∈ A.muts := by intro a ha; simp [Ad.muts] at ha ⊢; rcases ha with ha | ha <;> simp [ha]
    have hfp1 := muts1 (A := A) (x := A.v0) (by simp [Ad.muts])
    obtain ⟨o0, j0, k0, j0', j0''⟩ := R.v0
    have SS := R.statB [A.dd, A.v0] hfp
    obtain ⟨oa, ja, ka, ja', ja''⟩ := SS.au
    have NN := News.cons1 (N _ jd) (News.cons1 (N _ j0) (butL_news (fp := [A.dd, A.v0]) N))
    rw [hlv, e, show ownV A (some 0) = .ref A.l0 from rfl]
    refine set_in_raw B F X T hk NN (fun _ => butL_ne (.tail _ (.head _))) (butL_ne (.head _)) ap.dd_v0 SS.va SS.vd jd' jd'' SS.lows.1 SS.l0 SS.f0 j0' j0'' SS.lows.2.2.2.1 (by have := hf.2.1; omega) (by have := hf.1; omega) hv ja ja' ja'' SS.lows.2.1 (fun hl h' tk' o' F' N' hIT => ?_) (fun hl h' tk' o' F' N' hIT => ?_)
    · have hs := but2a (x := A.dd) (y := A.v0) (o := od) (o' := o') N jd
      refine h h' tk' _ F' N' (Ext.of_but hs hfp1) ?_
      have ea : σ.at k = some 0 := by unfold Si.at; rw [e]; exact if_pos hl
      rw [ea]
      exact R.upD0 hs (.tail _ (.head _)) hIT
    · have hs := but2b (x := A.dd) (y := A.v0) (o := o') (o' := o0) N j0
      refine h h' tk' _ F' N' (Ext.of_but hs hfd) ?_
      have ea : σ.at k = none := by unfold Si.at; rw [e]; exact if_neg (fun q => absurd (hl.symm.trans q) Bool.false_ne_true)
      rw [ea]
      exact R.upDd hs (.head _) hIT
  · have hfp : ∀ a ∈ [A.dd, A.v1], a ∈ A.muts := by intro a ha; simp [Ad.muts] at ha ⊢; rcases ha with ha | ha <;> simp [ha]
    have hfp1 := muts1 (A := A) (x := A.v1) (by simp [Ad.muts])
    obtain ⟨o0, j0, k0, j0', j0''⟩ := R.v1
    have SS := R.statB [A.dd, A.v1] hfp
    obtain ⟨oa, ja, ka, ja', ja''⟩ := SS.au
    have NN := News.cons1 (N _ jd) (News.cons1 (N _ j0) (butL_news (fp := [A.dd, A.v1]) N))
    rw [hlv, e, show ownV A (some 1) = .ref A.l1 from rfl]
    refine set_in_raw B F X T hk NN (fun _ => butL_ne (.tail _ (.head _))) (butL_ne (.head _)) ap.dd_v1 SS.va SS.vd jd' jd'' SS.lows.1 SS.l1 SS.f1 j0' j0'' SS.lows.2.2.2.2.1 (by have := hf.2.2.1; omega) (by have := hf.1; omega) hv ja ja' ja'' SS.lows.2.1 (fun hl h' tk' o' F' N' hIT => ?_) (fun hl h' tk' o' F' N' hIT => ?_)
    · have hs := but2a (x := A.dd) (y := A.v1) (o := od) (o' := o') N jd
      refine h h' tk' _ F' N' (Ext.of_but hs hfp1) ?_
      have ea : σ.at k = some 1 := by unfold Si.at; rw [e]; exact if_pos hl
      rw [ea]
      exact R.upD1 hs (.tail _ (.head _)) hIT
    · have hs := but2b (x := A.dd) (y := A.v1) (o := o') (o' := o0) N j0
      refine h h' tk' _ F' N' (Ext.of_but hs hfd) ?_
      have ea : σ.at k = none := by unfold Si.at; rw [e]; exact if_neg (fun q => absurd (hl.symm.trans q) Bool.false_ne_true)
      rw [ea]
      exact R.upDd hs (.head _) hIT

-- 56_bind
theorem bind_c {w : World} {p : Program} {loose : List Str} {cn : Str} {cs : Scope} {a : Addr} {ccd : Value} {cl : List (Str × Addr)} {base h₀ : Heap} {L : Addr} {m : Str → Option Value} {s : Shared} {Q E : Value → Shared → Prop} {e1 : Env} {A₀ : Around}
    {mean : ExcName → Option Value} {mg mb : Str → Option Value} {nx : List (Addr × Obj)} {A : Ad} {σ : Si}
    (B : Below A₀ base [e1] h₀) (F : Fr h₀ L s.heap m) (X : (Kf w.params).In h₀) (T : Top p loose mean mg mb h₀) (hk : cs.kind = .function)
    (N : News h₀ L s.heap nx) (R : Rep w A σ nx)
    {lv v : Value} {d : PyData} {n : Int} {tk : Tok} (hf : σ.Fits 400) (hc : curOk σ.cur) (hlv : lv = ownV A σ.cur) (hv : PyProof.V.Flat v d)
    (h : ∀ b h' tk' nx', Fr h₀ L h' m → News h₀ L h' nx' → Ext A nx nx' → Rep w A (σ.setD (σ.at (n + 2)) (n + 2) d) nx' → BoundV w A (PS A nx') (.ref b) ((σ.at (n + 2), n), σ.getD (σ.at (n + 2)) (n + 2)) → Q (.ref b) { s with heap := h', toks := tk' }) :
    wpAny (model PySem.Challenge.rw_np0094_01.row.prog w) (Ar 303 10 cn cs L a ccd cl [e1]) (call (.ref 383) [.ref A.va, lv, .int (n + 2) tk, v]) Q E s := by
  have ap := Apart.of R.nd
  obtain ⟨od, jd, kd, jd', jd''⟩ := R.dd
  have hfd := muts1 (A := A) (x := A.dd) (by simp [Ad.muts])
  have hcc : σ.cur = none ∨ σ.cur = some 0 ∨ σ.cur = some 1 := by
    generalize σ.cur = c at hc
    match c, hc with
    | none, _ => exact .inl rfl
    | some i, hc => exact .inr (hc.imp (congrArg some) (congrArg some))
  rcases hcc with e | e | e
  · have SS := R.statB [A.dd] hfd
    obtain ⟨ob, jb, kb, jb', jb''⟩ := SS.bv
    rw [hlv, e, show ownV A none = .ref A.ba from rfl]
    have ea : σ.at (n + 2) = none := by unfold Si.at; rw [e]; rfl
    rw [ea] at h
    refine bind_bare_raw (oa := ob) (ka := []) B F X T hk (News.cons1 (N _ jd) (butL_news N)) jb (butL_ne (.head _)) SS.va SS.vd jd' jd'' SS.lows.1 SS.ba SS.bd jb' jb'' SS.lows.2.2.1 (by have := hf.1; omega) hv fun b bd t1 t2 t3 t4 t5 t6 y h' tk' o' F' N' hlt hlt2 hy hIT => ?_
    have hl := but1lt (tb_ltOf hlt)
    have hlb : ∀ p ∈ nx, p.1 < b := fun p hp => Nat.lt_trans (hl p hp) hlt2
    have hs : ∀ p ∈ butL [A.dd] nx, p ∈ (b, instObj 372 bd) :: (bd, dictOf [en w "sort" t1 (.int 1 t2), en w "own" t3 .none, en w "symbol" t4 (.int (n + 2) t5), en w "value" t6 y] 4) :: (A.dd, o') :: butL [A.dd] nx := fun p hp => .tail _ (.tail _ (.tail _ hp))
    exact h b h' tk' _ F' N' (Ext.of_but hs hfd) (R.upDd hs (.tail _ (.tail _ (.head _))) hIT) ⟨b, bd, t1, t2, t3, t4, t5, t6, y, rfl, ⟨.head _, R.new hlb⟩, ⟨.tail _ (.head _), R.new hl⟩, hy⟩
  · have hfp : ∀ a ∈ [A.dd, A.v0], a ∈ A.muts := by intro a ha; simp [Ad.muts] at ha ⊢; rcases ha with ha | ha <;> simp [ha]
    have hfp1 := muts1 (A := A) (x := A.v0) (by simp [Ad.muts])
    obtain ⟨o0, j0, k0, j0', j0''⟩ := R.v0
    have SS := R.statB [A.dd, A.v0] hfp
    have NN := News.cons1 (N _ jd) (News.cons1 (N _ j0) (butL_news (fp := [A.dd, A.v0]) N))
    rw [hlv, e, show ownV A (some 0) = .ref A.l0 from rfl]
    refine bind_raw (oa := o0) (ka := []) B F X T hk NN (fun _ => butL_ne (.tail _ (.head _))) (butL_ne (.head _)) ap.dd_v0 SS.va SS.vd jd' jd'' SS.lows.1 SS.l0 SS.f0 j0' j0'' SS.lows.2.2.2.1 (by have := hf.2.1; omega) (by have := hf.1; omega) hv (fun hl b bd t1 t2 t3 t4 t5 t6 y dy h' tk' o' F' N' hlt hlt2 hly hy hIT => ?_) (fun hl b bd t1 t2 t3 t4 t5 t6 y h' tk' o' F' N' hlt hlt2 hy hIT => ?_)
    · have hll := but2lt (tb_ltOf hlt)
      have hlb : ∀ p ∈ nx, p.1 < b := fun p hp => Nat.lt_trans (hll p hp) hlt2
      have hs := fun p hp => List.Mem.tail (b, instObj 372 bd) (List.Mem.tail (bd, dictOf [en w "sort" t1 (.int 0 t2), en w "own" t3 (.ref A.l0), en w "symbol" t4 (.int (n + 2) t5), en w "value" t6 y] 4) (but2a (x := A.dd) (y := A.v0) (o := od) (o' := o') N jd p hp))
      have ea : σ.at (n + 2) = some 0 := by unfold Si.at; rw [e]; exact if_pos hl
      rw [ea] at h
      refine h b h' tk' _ F' N' (Ext.of_but hs hfp1) (R.upD0 hs (.tail _ (.tail _ (.tail _ (.head _)))) hIT) ⟨b, bd, t1, t2, t3, t4, t5, t6, y, rfl, ⟨.head _, R.new hlb⟩, ⟨.tail _ (.head _), R.new hll⟩, ?_⟩
      have e9 : σ.getD (some 0) (n + 2) = dy := by show (Spec.lookup _ σ.D0).getD _ = dy; rw [hly]; rfl
      rw [e9]; exact hy
    · have hll := but2lt (tb_ltOf hlt)
      have hlb : ∀ p ∈ nx, p.1 < b := fun p hp => Nat.lt_trans (hll p hp) hlt2
      have hs := fun p hp => List.Mem.tail (b, instObj 372 bd) (List.Mem.tail (bd, dictOf [en w "sort" t1 (.int 1 t2), en w "own" t3 .none, en w "symbol" t4 (.int (n + 2) t5), en w "value" t6 y] 4) (but2b (x := A.dd) (y := A.v0) (o := o') (o' := o0) N j0 p hp))
      have ea : σ.at (n + 2) = none := by unfold Si.at; rw [e]; exact if_neg (fun q => absurd (hl.symm.trans q) Bool.false_ne_true)
      rw [ea] at h
      exact h b h' tk' _ F' N' (Ext.of_but hs hfd) (R.upDd hs (.tail _ (.tail _ (.head _))) hIT) ⟨b, bd, t1, t2, t3, t4, t5, t6, y, rfl, ⟨.head _, R.new hlb⟩, ⟨.tail _ (.head _), R.new hll⟩, hy⟩
  · have hfp : ∀ a ∈ [A.dd, A.v1], a ∈ A.muts := by intro a ha; simp [Ad.muts] at ha ⊢; rcases ha with ha | ha <;> simp [ha]
    have hfp1 := muts1 (A := A) (x := A.v1) (by simp [Ad.muts])
    obtain ⟨o0, j0, k0, j0', j0''⟩ := R.v1
    have SS := R.statB [A.dd, A.v1] hfp
    have NN := News.cons1 (N _ jd) (News.cons1 (N _ j0) (butL_news (fp := [A.dd, A.v1]) N))
    rw [hlv, e, show ownV A (some 1) = .ref A.l1 from rfl]
    refine bind_raw (oa := o0) (ka := []) B F X T hk NN (fun _ => butL_ne (.tail _ (.head _))) (butL_ne (.head _)) ap.dd_v1 SS.va SS.vd jd' jd'' SS.lows.1 SS.l1 SS.f1 j0' j0'' SS.lows.2.2.2.2.1 (by have := hf.2.2.1; omega) (by have := hf.1; omega) hv (fun hl b bd t1 t2 t3 t4 t5 t6 y dy h' tk' o' F' N' hlt hlt2 hly hy hIT => ?_) (fun hl b bd t1 t2 t3 t4 t5 t6 y h' tk' o' F' N' hlt hlt2 hy hIT => ?_)
    · have hll := but2lt (tb_ltOf hlt)
      have hlb : ∀ p ∈ nx, p.1 < b := fun p hp => Nat.lt_trans (hll p hp) hlt2
      have hs := fun p hp => List.Mem.tail (b, instObj 372 bd) (List.Mem.tail (bd, dictOf [en w "sort" t1 (.int 0 t2), en w "own" t3 (.ref A.l1), en w "symbol" t4 (.int (n + 2) t5), en w "value" t6 y] 4) (but2a (x := A.dd) (y := A.v1) (o := od) (o' := o') N jd p hp))
      have ea : σ.at (n + 2) = some 1 := by unfold Si.at; rw [e]; exact if_pos hl
      rw [ea] at h
      refine h b h' tk' _ F' N' (Ext.of_but hs hfp1) (R.upD1 hs (.tail _ (.tail _ (.tail _ (.head _)))) hIT) ⟨b, bd, t1, t2, t3, t4, t5, t6, y, rfl, ⟨.head _, R.new hlb⟩, ⟨.tail _ (.head _), R.new hll⟩, ?_⟩
      have e9 : σ.getD (some 1) (n + 2) = dy := by show (Spec.lookup _ σ.D1).getD _ = dy; rw [hly]; rfl
      rw [e9]; exact hy
    · have hll := but2lt (tb_ltOf hlt)
      have hlb : ∀ p ∈ nx, p.1 < b := fun p hp => Nat.lt_trans (hll p hp) hlt2
      have hs := fun p hp => List.Mem.tail (b, instObj 372 bd) (List.Mem.tail (bd, dictOf [en w "sort" t1 (.int 1 t2), en w "own" t3 .none, en w "symbol" t4 (.int (n + 2) t5), en w "value" t6 y] 4) (but2b (x := A.dd) (y := A.v1) (o := o') (o' := o0) N j0 p hp))
      have ea : σ.at (n + 2) = none := by unfold Si.at; rw [e]; exact if_neg (fun q => absurd (hl.symm.trans q) Bool.false_ne_true)
      rw [ea] at h
      exact h b h' tk' _ F' N' (Ext.of_but hs hfd) (R.upDd hs (.tail _ (.tail _ (.head _))) hIT) ⟨b, bd, t1, t2, t3, t4, t5, t6, y, rfl, ⟨.head _, R.new hlb⟩, ⟨.tail _ (.head _), R.new hll⟩, hy⟩
theorem unbind_c {w : World} {p : Program} {loose : List Str} {cn : Str} {cs : Scope} {a : Addr} {ccd : Value} {cl : List (Str × Addr)} {base h₀ : Heap} {L : Addr} {m : Str → Option Value} {s : Shared} {Q E : Value → Shared → Prop} {e1 : Env} {A₀ : Around}
    {mean : ExcName → Option Value} {mg mb : Str → Option Value} {nx : List (Addr × Obj)} {A : Ad} {σ : Si}
    (B : Below A₀ base [e1] h₀) (F : Fr h₀ L s.heap m) (X : (Kf w.params).In h₀) (T : Top p loose mean mg mb h₀) (hk : cs.kind = .function)
    (N : News h₀ L s.heap nx) (R : Rep w A σ nx)
    {bv : Value} {kk : (Option Int × Int) × PyData} (hf : σ.Fits 400) (hb : BoundV w A (PS A nx) bv kk) (hc : curOk kk.1.1) (h : ∀ h' tk' nx', Fr h₀ L h' m → News h₀ L h' nx' → Ext A nx nx' → Rep w A (σ.back kk.1.1 (kk.1.2 + 2) kk.2) nx' → Q .none { s with heap := h', toks := tk' }) :
    wpAny (model PySem.Challenge.rw_np0094_01.row.prog w) (Ar 303 10 cn cs L a ccd cl [e1]) (call (.ref 390) [.ref A.va, bv]) Q E s := by
  have ap := Apart.of R.nd
  have hfd := muts1 (A := A) (x := A.dd) (by simp [Ad.muts])
  obtain ⟨⟨c, n⟩, d⟩ := kk
  obtain ⟨b, bd, t1, t2, t3, t4, t5, t6, y, rfl, pb, pbd, hy⟩ := hb
  dsimp only at hc h pbd hy
  have hcc : c = none ∨ c = some 0 ∨ c = some 1 := by
    match c, hc with
    | none, _ => exact .inl rfl
    | some i, hc => exact .inr (hc.imp (congrArg some) (congrArg some))
  rcases hcc with rfl | rfl | rfl
  · have SS := R.statB [A.dd] hfd
    obtain ⟨od, jd, kd, jd', jd''⟩ := R.dd
    exact unbind_d_raw B F X T hk (News.cons1 (N _ jd) (butL_news N)) (butL_ne (.head _)) SS.va SS.vd jd' jd'' SS.lows.1 (by have := hf.1; omega) hy (PS.mb hfd pb) (PS.mb hfd pbd) fun h' tk' o' F' N' hIT =>
      h h' tk' _ F' N' (Ext.of_but (fun p hp => .tail _ hp) hfd) (R.upDd (fun p hp => .tail _ hp) (.head _) hIT)
  · have hfp := muts1 (A := A) (x := A.v0) (by simp [Ad.muts])
    obtain ⟨o0, j0, k0, j0', j0''⟩ := R.v0
    have SS := R.statB [A.v0] hfp
    refine unbind_l_raw B F X T hk (News.cons1 (N _ j0) (butL_news N)) (butL_ne (.head _)) SS.l0 SS.f0 j0' j0'' SS.lows.2.2.2.1 (by have := hf.2.1; omega) hy (PS.mb hfp pb) (PS.mb hfp pbd) fun h' tk' o' D' F' N' hIT hD => ?_
    have R' := R.upD0 (fun p hp => .tail _ hp) (.head _) hIT
    refine h h' tk' _ F' N' (Ext.of_but (fun p hp => .tail _ hp) hfp) ?_
    have e : σ.back (some 0) (n + 2) d = { σ with D0 := D' } := by
      rw [hD]
      show (if (Spec.lookup (.int (n + 2)) σ.D0).isSome = true then { σ with D0 := PyProof.V.putD (.int (n + 2)) d σ.D0 } else σ) = _
      split <;> rfl
    rw [e]; exact R'
  · have hfp := muts1 (A := A) (x := A.v1) (by simp [Ad.muts])
    obtain ⟨o0, j0, k0, j0', j0''⟩ := R.v1
    have SS := R.statB [A.v1] hfp
    refine unbind_l_raw B F X T hk (News.cons1 (N _ j0) (butL_news N)) (butL_ne (.head _)) SS.l1 SS.f1 j0' j0'' SS.lows.2.2.2.2.1 (by have := hf.2.2.1; omega) hy (PS.mb hfp pb) (PS.mb hfp pbd) fun h' tk' o' D' F' N' hIT hD => ?_
    have R' := R.upD1 (fun p hp => .tail _ hp) (.head _) hIT
    refine h h' tk' _ F' N' (Ext.of_but (fun p hp => .tail _ hp) hfp) ?_
    have e : σ.back (some 1) (n + 2) d = { σ with D1 := D' } := by
      rw [hD]
      show (if (Spec.lookup (.int (n + 2)) σ.D1).isSome = true then { σ with D1 := PyProof.V.putD (.int (n + 2)) d σ.D1 } else σ) = _
      split <;> rfl
    rw [e]; exact R'

-- 57_bindm
example : True := by
  k_with "mine now" =>
    walk_at "mine stat"
    rcases hn with rfl | rfl | rfl
    · rw [show symA A 0 = A.s0 from rfl]
      revert X; k_fill; intro X
      refine wpAny_call ?_
      k_dflt ktr_enter
      refine wpAny_noRaise ?_
      repeat' (walk_at "mine step")
      rw [show (Txt.slice (Str.ofString "a") none (some 1) == Str.ofString ":") = false by decide]
      exact h _ _ (by assumption) (News.tail (by assumption))
    · rw [show symA A 1 = A.s1 from rfl]
      revert X; k_fill; intro X
      refine wpAny_call ?_
      k_dflt ktr_enter
      refine wpAny_noRaise ?_
      repeat' (walk_at "mine step")
      rw [show (Txt.slice (Str.ofString "b") none (some 1) == Str.ofString ":") = false by decide]
      exact h _ _ (by assumption) (News.tail (by assumption))
    · rw [show symA A 2 = A.s2 from rfl]
      revert X; k_fill; intro X
      refine wpAny_call ?_
      k_dflt ktr_enter
      refine wpAny_noRaise ?_
      repeat' (walk_at "mine step")
      rw [show (Txt.slice (Str.ofString "c") none (some 1) == Str.ofString ":") = false by decide]
      exact h _ _ (by assumption) (News.tail (by assumption))
  trivial
theorem is_const_c {w : World} {p : Program} {loose : List Str} {cn : Str} {cs : Scope} {a : Addr} {ccd : Value} {cl : List (Str × Addr)} {base h₀ : Heap} {L : Addr} {m : Str → Option Value} {s : Shared} {Q E : Value → Shared → Prop} {e1 : Env} {A₀ : Around}
    {mean : ExcName → Option Value} {mg mb : Str → Option Value} {nx : List (Addr × Obj)} {A : Ad} {σ : Si}
    (B : Below A₀ base [e1] h₀) (F : Fr h₀ L s.heap m) (X : (Kf w.params).In h₀) (T : Top p loose mean mg mb h₀) (hk : cs.kind = .function)
    (N : News h₀ L s.heap nx) (R : Rep w A σ nx)
    {n : Int} (hn : n = 0 ∨ n = 1 ∨ n = 2) (h : ∀ h' tk', Fr h₀ L h' m → News h₀ L h' nx → Q (.bool false) { s with heap := h', toks := tk' }) :
    wpAny (model PySem.Challenge.rw_np0094_01.row.prog w) (Ar 303 10 cn cs L a ccd cl [e1]) (call (.ref 138) [.ref (symA A n)]) Q E s := by
  refine GoalP.out ?_
  simp (disch := k_dflt (walk_at "mine now")) only [↓goalP_of]

theorem append_sr {w : World} {AA : Around} {h₀ : Heap} {L : Addr} {m : Str → Option Value} {s : Shared} {Q E : Value → Shared → Prop} {nx : List (Addr × Obj)} {A : Ad} {σ : Si} {v : Value} {k : (Option Int × Int) × PyData}
    (F : Fr h₀ L s.heap m) (N : News h₀ L s.heap nx) (R : Rep w A σ nx) (hf : σ.Fits 400) (hb : BoundV w A (PS A nx) v k)
    (h : ∀ h' nx', Fr h₀ L h' m → News h₀ L h' nx' → Ext A nx nx' → Rep w A { σ with S := σ.S ++ [k] } nx' → Q .none { s with heap := h' }) :
    wpAny (model PP w) AA (call (.builtin "list.append") [.ref A.sr, v]) Q E s := by
  obtain ⟨vs, c, jm, hall⟩ := R.sr
  have hfp := muts1 (A := A) (x := A.sr) (by simp [Ad.muts])
  have hz : vs.length ≤ 400 := by have := hall.length; have := hf.2.2.2.2.2; omega
  have NN := News.cons1 (N _ jm) (butL_news (fp := [A.sr]) N)
  have U : Upd A.sr (W.listOf vs.toArray c) (W.listOf (vs ++ [v]).toArray (c + 1)) ((A.sr, W.listOf vs.toArray c) :: butL [A.sr] nx) ((A.sr, W.listOf (vs ++ [v]).toArray (c + 1)) :: butL [A.sr] nx) := Upd.head (butL_ne (.head _))
  refine append_K F NN (by rw [List.push_toArray]; exact U) (fun h' F' N' => ?_) (by rw [List.size_toArray, sizeLine_eq]; omega)
  have hs : ∀ p ∈ butL [A.sr] nx, p ∈ (A.sr, W.listOf (vs ++ [v]).toArray (c + 1)) :: butL [A.sr] nx := fun p hp => .tail _ hp
  exact h h' _ F' N' (Ext.of_but hs hfp) (R.upS hs (.head _) ((hall.mono fun _ _ q => q.mono (PS.but hs hfp)).snoc (hb.mono (PS.but hs hfp))))
section
example : True := by
  k_with "call ref" => ((with_reducible show wpAny _ _ (call (Value.ref 138) _) _ _ _); k_here; k_dflt (refine is_const_c (by k_asm) (by k_asm) (by k_asm) (by k_asm) (by rfl) (by k_asm) (by assumption) (by assumption) ?_; k_whole); intro h' tk' F' N')
  trivial
example : True := by
  k_with "call ref" => ((with_reducible show wpAny _ _ (call (Value.ref 809) _) _ _ _); k_here; k_dflt (refine own_c2 (by k_asm) (by k_asm) (by k_asm) (by k_asm) (by rfl) (by k_asm) (by assumption) (by assumption) ?_; k_whole); intro h' tk' F' N')
  trivial
example : True := by
  k_with "call ref" => ((with_reducible show wpAny _ _ (call (Value.ref 383) _) _ _ _); k_here; k_dflt (refine bind_c (by k_asm) (by k_asm) (by k_asm) (by k_asm) (by rfl) (by k_asm) (by assumption) (by assumption) (by assumption) (by rfl) (by assumption) ?_; k_whole); intro b' h' tk' nx' F' N' xx' RN bb')
  trivial
example : True := by
  k_with "call builtin:list.append" => (k_here; (with_reducible show wpAny _ _ (call (Value.builtin _) [Value.ref (Ad.sr _), _]) _ _ _); k_dflt (refine append_sr (by k_asm) (by k_asm) (by assumption) (by assumption) (by assumption) ?_; k_whole); intro h' nx' F' N' xx' RN)
  trivial
example : True := by
  k_with "mine now" =>
    walk_at "mine stat"
    have jS1 := RR.wd
    obtain ⟨vs, c, jsr, _⟩ := RR.sr
    obtain ⟨z, t1, t2, t3, t4, nm, hsy, hz⟩ := symA_at RR.st hn
    replace hsy := hsy.1
    replace hz := hz.1
    have hf4 : σ.Fits 400 := hf.mono (by decide)
    have hf5 : (σ.setD (σ.at (n + 2)) (n + 2) d).Fits 400 := (hf.setD _ _ _).mono (by decide)
    have hS : (σ.setD (σ.at (n + 2)) (n + 2) d).S = σ.S := Si.setD_S ..
    rw [← hS] at h
    revert X; k_fill; intro X
    refine wpAny_call ?_
    k_dflt ktr_enter
    refine wpAny_noRaise ?_
    repeat' (walk_at "mine step")
    exact h _ _ _ (by assumption) (by assumption) (Ext.trans (by assumption) (by assumption)) (by assumption)
  trivial
theorem bindm_c {w : World} {p : Program} {loose : List Str} {cn : Str} {cs : Scope} {a : Addr} {ccd : Value} {cl : List (Str × Addr)} {base h₀ : Heap} {L : Addr} {m : Str → Option Value} {s : Shared} {Q E : Value → Shared → Prop} 
    {mean : ExcName → Option Value} {mg mb : Str → Option Value} {nx : List (Addr × Obj)} {A : Ad} {σ : Si}
    (B : Below callerA base [] h₀) (F : Fr h₀ L s.heap m) (X : (Kf w.params).In h₀) (T : Top p loose mean mg mb h₀) (hk : cs.kind = .function)
    (N : News h₀ L s.heap nx) (R : Rep w A σ nx)
    {v : Value} {d : PyData} {n : Int} (hn : n = 0 ∨ n = 1 ∨ n = 2) (hf : σ.Fits 300) (hc : curOk σ.cur) (hv : PyProof.V.Flat v d)
    (h : ∀ h' tk' nx', Fr h₀ L h' m → News h₀ L h' nx' → Ext A nx nx' → Rep w A { σ.setD (σ.at (n + 2)) (n + 2) d with S := σ.S ++ [((σ.at (n + 2), n), σ.getD (σ.at (n + 2)) (n + 2))] } nx' → Q .none { s with heap := h', toks := tk' }) :
    wpAny (model PySem.Challenge.rw_np0094_01.row.prog w) (Ar 302 7 cn cs L a ccd cl []) (call (.ref 418) [.ref A.sk, .ref (symA A n), v]) Q E s := by
  refine GoalP.out ?_
  simp (disch := k_dflt (walk_at "mine now")) only [↓goalP_of]

end

example : True := by
  k_with_none
  k_with "mine c" => with_reducible first | assumption | exact And.left (by assumption) | exact And.left (And.right (by assumption)) | exact And.left (And.right (And.right (by assumption))) | exact And.left (And.right (And.right (And.right (by assumption)))) | exact And.left (And.right (And.right (And.right (And.right (by assumption))))) | exact And.left (And.right (And.right (And.right (And.right (And.right (by assumption)))))) | exact And.left (And.right (And.right (And.right (And.right (And.right (And.right (by assumption))))))) | exact And.left (And.right (And.right (And.right (And.right (And.right (And.right (And.right (by assumption)))))))) | exact And.left (And.right (And.right (And.right (And.right (And.right (And.right (And.right (And.right (by assumption))))))))) | exact And.left (And.right (And.right (And.right (And.right (And.right (And.right (And.right (And.right (And.right (by assumption)))))))))) | exact And.left (And.right (And.right (And.right (And.right (And.right (And.right (And.right (And.right (And.right (And.right (by assumption))))))))))) | exact And.left (And.right (And.right (And.right (And.right (And.right (And.right (And.right (And.right (And.right (And.right (And.right (by assumption)))))))))))) | exact And.left (And.right (And.right (And.right (And.right (And.right (And.right (And.right (And.right (And.right (And.right (And.right (And.right (by assumption))))))))))))) | exact And.left (And.right (And.right (And.right (And.right (And.right (And.right (And.right (And.right (And.right (And.right (And.right (And.right (And.right (by assumption)))))))))))))) | exact And.right (by assumption) | exact And.right (And.right (by assumption)) | exact And.right (And.right (And.right (by assumption))) | exact And.right (And.right (And.right (And.right (by assumption)))) | exact And.right (And.right (And.right (And.right (And.right (by assumption))))) | exact And.right (And.right (And.right (And.right (And.right (And.right (by assumption)))))) | exact And.right (And.right (And.right (And.right (And.right (And.right (And.right (by assumption)))))))
  k_with "k_all" => first | assumption | exact fun p hp => Nat.ne_of_lt (tb_ltOf (by assumption) p hp) | exact fun p hp => Nat.ne_of_gt (tb_ltOf (by assumption) p hp) | ((repeat (rename _ ∧ _ => q; cases q)); exact fun p hp => Nat.ne_of_lt (tb_ltOf (by assumption) p hp)) | ((repeat (rename _ ∧ _ => q; cases q)); exact fun p hp => Nat.ne_of_gt (tb_ltOf (by assumption) p hp))
  k_with "mine sub" => (intro p hp; (repeat first | exact hp | refine List.Mem.tail _ ?_))
  k_with "mine opt" => first | assumption | exact isOpt_none | exact isOpt_int _ _
  k_with "mine tk" => first | assumption | exact Mine.tk2 (by walk_at "mine opt") (by walk_at "mine opt")
  k_with "compareOp In ref ref" => (k_here; k_dflt (refine rows_in (by exact Nat.le_of_ble_eq_true rfl) (by k_asm) (by assumption) (by walk_at "mine sub") (by k_mem) (by assumption) (by k_mem) (by walk_at "mine tk") ?_; k_whole))
  k_with "compareOp NotIn ref ref" => (k_here; k_dflt (refine rows_notin (by exact Nat.le_of_ble_eq_true rfl) (by k_asm) (by assumption) (by walk_at "mine sub") (by k_mem) (by assumption) (by k_mem) (by walk_at "mine tk") ?_; k_whole))
  k_with "call builtin:dict.get" => (k_here; k_dflt (refine rows_get (by exact Nat.le_of_ble_eq_true rfl) (by k_asm) (by assumption) (by walk_at "mine sub") (by k_mem) (by assumption) (by k_mem) (by walk_at "mine tk") ?_; k_whole); intro v' hv')
  k_with "getMethod ref" => (k_here; (with_reducible show wpAny _ _ (getMethod (Value.ref _) _ _) _ _ _); k_dflt (refine rows_meth (by first | exact PySem.F.slot_dict_get | exact PySem.F.slot_dict_pop) (by rfl) (by k_asm) (by assumption) (by walk_at "mine sub") (by k_mem) (by assumption) ?_; k_whole))
  k_with "subscriptTail" => (k_here; (with_reducible show wpAny _ _ (subscriptTail _ _ (Value.ref _) (Value.ref _)) _ _ _); k_dflt (refine rows_itemS (by exact Nat.le_of_ble_eq_true rfl) (by k_asm) (by assumption) (by walk_at "mine sub") (by k_mem) (by assumption) (by k_mem) (by walk_at "mine tk") (by assumption) ?_ (by with_unfolding_all rfl) (by (intro _; with_unfolding_all rfl)); k_whole); intro v' d' hl' hv')
  k_with "call builtin:len" => (k_here; (with_reducible show wpAny _ _ (call (Value.builtin "len") [Value.ref _]) _ _ _); k_dflt (refine lenL (by k_asm) (by k_mem) (by omega) ?_; k_whole); intro t' tk')
  k_with "call builtin:dict.pop" => (k_here; (with_reducible show wpAny _ _ (call (Value.builtin _) [Value.ref _, Value.int _ _]) _ _ _); k_dflt (refine popI (by k_asm) (by k_asm) (by k_updF) (by assumption) (by assumption) (by assumption) (by omega) ?_; k_whole); intro h' o' v' kvs' D' F' N' hd' hf' hn' hl'; (try dsimp only at N'))
  k_with "setItem ref int" => (k_here; k_dflt (refine setItem_K PyProof.V.same_int (intKind_is _ _ _ _) (by k_flat) (by k_asm) (by k_asm) (by k_updF) (by assumption) (by assumption) ?_ (by (rw [sizeLine_eq]; omega)); ); intro h' o' F' N' hd' hf'; (try dsimp only at N'))
  k_with "call builtin:list.pop" => (k_here; k_dflt (refine pop0 (by k_asm) (by k_asm) (by k_upd) (by (have hq := IntsAre.length (by assumption); rw [sizeLine_eq]; simp only [List.length_cons] at *; omega)) ?_; k_whole); intro h' F' N'; (try dsimp only [List.nil_append, List.cons_append] at N'))
  k_with "call builtin:list.append" => (k_here; (with_reducible show wpAny _ _ (call (Value.builtin _) [Value.ref _, _]) _ _ _); k_dflt (refine appF (by k_asm) (by k_asm) (by first | omega | (simp only [List.length_append, List.length_cons, List.length_nil]; omega)) (by k_upd) ?_; k_whole); intro h' F' N'; (try dsimp only [List.nil_append, List.cons_append] at N'))
  k_with "getItem ref int" => (k_here; k_dflt (refine getItem_some PyProof.V.same_int (intKind_is _ _ _ _) (by k_tabat) (by assumption) ?_; k_whole); intro v' d' hl' hv')
  k_with "mine stat" => (rename Rep _ _ _ _ => RR; refine Rep.use RR ?_; intro hS1 hS2 hS3 oS4 hS4 kS4 hS4' hS4'' hS5 hS6 oS7 hS7 kS7 hS7' hS7'' hS8 hS9 esS10 nS10 hS10 hS10' hS11 hS12 hS13 esS14 nS14 hS14 hS14' hS15 hS16 hS17 hS18 hS19 hS20 hS21 hS22 hS23 hS24 hS25 hS26 gS1 gS2 gS3 gS4 gS5 gS6)
  k_with "mine statS" => (rename Stat _ _ _ => SS; refine Stat.use SS ?_; intro hS1 hS2 hS3 oS4 hS4 kS4 hS4' hS4'' hS5 hS6 oS7 hS7 kS7 hS7' hS7'' hS8 hS9 esS10 nS10 hS10 hS10' hS11 hS12 hS13 esS14 nS14 hS14 hS14' hS15 hS16 hS17 hS18 hS19 hS20 hS21 hS22 hS23 hS24 hS25 hS26 gS1 gS2 gS3 gS4 gS5 gS6)
  k_with "mine dyn" => (rename Rep _ _ _ _ => RR; refine Rep.dyn RR ?_; intro jS1 odS jS2 kdS jS2' jS2'' o0S jS3 k0S jS3' jS3'' o1S jS4 k1S jS4' jS4'')
  k_with "mine fr" => (intro z q1 q2; (try dsimp only); first | (rw [if_neg q1, q2]; rfl) | (have q3 := q2; simp only [List.contains_cons, List.contains_nil, Bool.or_false, Bool.or_eq_false_iff, beq_eq_false_iff_ne, ne_eq] at q3; simp only [q1, q2, q3, if_false, List.contains_nil, Bool.false_eq_true]))
  k_with "mine frw" => (intro z q2; (try dsimp only); have q3 := q2; simp only [List.contains_cons, List.contains_nil, Bool.or_false, Bool.or_eq_false_iff, beq_eq_false_iff_ne, ne_eq] at q3; simp only [q2, q3, if_false, List.contains_nil, Bool.false_eq_true])
  k_with "k_handed" => exact flat_handed (by assumption)
  k_with "k_get" => assumption
  k_with "execs cons" => (k_here; first | k_gentoks | (refine execsG ?_; intro Q' hn hr))
  k_with "k_mem" => (change (_ : Addr × Obj) ∈ (_ : List (Addr × Obj)); ktr_member)
  trivial
-- 57b_ops
section
variable {w : World} {AA : Around} {h₀ : Heap} {L : Addr} {m : Str → Option Value} {s : Shared} {E : Value → Shared → Prop} {nx : List (Addr × Obj)} {A : Ad} {σ : Si} {k : (Option Int × Int) × PyData} {K : List ((Option Int × Int) × PyData)}
theorem pop_kp {Q : Value → Shared → Prop} (F : Fr h₀ L s.heap m) (N : News h₀ L s.heap nx) (R : Rep w A σ nx) (hf : σ.Fits 400) (hK : σ.K = K ++ [k])
    (h : ∀ v h' nx', Fr h₀ L h' m → News h₀ L h' nx' → Ext A nx nx' → Rep w A { σ with K := K } nx' → KeptV (PS A nx') v k → Q v { s with heap := h' }) :
    wpAny (model PP w) AA (call (.builtin "list.pop") [.ref A.kp]) Q E s := by
  obtain ⟨vs, c, jm, hall⟩ := R.kp
  have hfp := muts1 (A := A) (x := A.kp) (by simp [Ad.muts])
  have hz : vs.length ≤ 400 := by have := hall.length; have := hf.2.2.2.2.1; omega
  rw [hK] at hall
  obtain ⟨vs', v, rfl, hv, hall'⟩ := hall.last
  have NN := News.cons1 (N _ jm) (butL_news (fp := [A.kp]) N)
  have U : Upd A.kp (W.listOf (vs' ++ [v]).toArray c) (W.listOf vs'.toArray (c + 1)) ((A.kp, W.listOf (vs' ++ [v]).toArray c) :: butL [A.kp] nx) ((A.kp, W.listOf vs'.toArray (c + 1)) :: butL [A.kp] nx) := Upd.head (butL_ne (.head _))
  have hs : ∀ p ∈ butL [A.kp] nx, p ∈ (A.kp, W.listOf vs'.toArray (c + 1)) :: butL [A.kp] nx := fun p hp => .tail _ hp
  refine popE F NN U (by rw [sizeLine_eq]; rw [List.length_append] at hz; simp only [List.length_cons, List.length_nil] at hz; omega) fun h' F' N' => ?_
  exact h v h' _ F' N' (Ext.of_but hs hfp) (R.upK hs (.head _) (hall'.mono fun _ _ q => q.mono (PS.but hs hfp))) (hv.mono (PS.but hs hfp))
theorem append_kp {Q : Value → Shared → Prop} {v : Value} (F : Fr h₀ L s.heap m) (N : News h₀ L s.heap nx) (R : Rep w A σ nx) (hf : σ.Fits 400) (hb : KeptV (PS A nx) v k)
    (h : ∀ h' nx', Fr h₀ L h' m → News h₀ L h' nx' → Ext A nx nx' → Rep w A { σ with K := σ.K ++ [k] } nx' → Q .none { s with heap := h' }) :
    wpAny (model PP w) AA (call (.builtin "list.append") [.ref A.kp, v]) Q E s := by
  obtain ⟨vs, c, jm, hall⟩ := R.kp
  have hfp := muts1 (A := A) (x := A.kp) (by simp [Ad.muts])
  have hz : vs.length ≤ 400 := by have := hall.length; have := hf.2.2.2.2.1; omega
  have NN := News.cons1 (N _ jm) (butL_news (fp := [A.kp]) N)
  have U : Upd A.kp (W.listOf vs.toArray c) (W.listOf (vs ++ [v]).toArray (c + 1)) ((A.kp, W.listOf vs.toArray c) :: butL [A.kp] nx) ((A.kp, W.listOf (vs ++ [v]).toArray (c + 1)) :: butL [A.kp] nx) := Upd.head (butL_ne (.head _))
  refine append_K F NN (by rw [List.push_toArray]; exact U) (fun h' F' N' => ?_) (by rw [List.size_toArray, sizeLine_eq]; omega)
  have hs : ∀ p ∈ butL [A.kp] nx, p ∈ (A.kp, W.listOf (vs ++ [v]).toArray (c + 1)) :: butL [A.kp] nx := fun p hp => .tail _ hp
  exact h h' _ F' N' (Ext.of_but hs hfp) (R.upK hs (.head _) ((hall.mono fun _ _ q => q.mono (PS.but hs hfp)).snoc (hb.mono (PS.but hs hfp))))
theorem set_rw {Q : Unit → Shared → Prop} {a : Addr} {ok : Obj} {ks : List (Option Int)} {v : Value} {d : PyData} (F : Fr h₀ L s.heap m) (N : News h₀ L s.heap nx) (R : Rep w A σ nx) (hf : σ.Fits 400) (hu : AA.units + 1 < cLine) (hv : PyProof.V.Flat v d)
    (hka : PS A nx a ok) (tk : TupKeyObj (optKind PP w) ks ok)
    (h : ∀ h' tk' nx', Fr h₀ L h' m → News h₀ L h' nx' → Ext A nx nx' → Rep w A { σ with R := PyProof.V.putD (encTuple encO ks) d σ.R } nx' → Q () { s with heap := h', toks := tk' }) :
    wpAny (model PP w) AA (setItem (.ref A.rw) (.ref a) v) Q E s := by
  obtain ⟨o, jm, hr⟩ := R.rw
  have hfp := muts1 (A := A) (x := A.rw) (by simp [Ad.muts])
  have NN := News.cons1 (N _ jm) (butL_news (fp := [A.rw]) N)
  refine rows_set hu hv F NN (UpdF.head (butL_ne (.head _))) hr (fun p hp => .tail _ (PS.mb hfp hp)) (.tail _ (PS.mb hfp hka)) tk (by rw [sizeLine_eq]; have := hf.2.2.2.1; omega) fun h' o' F' N' hr' => ?_
  have hs : ∀ p ∈ butL [A.rw] nx, p ∈ (A.rw, o') :: butL [A.rw] nx := fun p hp => .tail _ hp
  refine h h' _ _ F' N' (Ext.of_but hs hfp) (R.upR hs (.head _) (hr'.mono fun p hp => ?_))
  rcases hp with hp | rfl
  · exact PS.but hs hfp _ _ hp
  · exact PS.but hs hfp _ _ hka
theorem pop_rw {Q : Value → Shared → Prop} {a : Addr} {ok : Obj} {ks : List (Option Int)} (F : Fr h₀ L s.heap m) (N : News h₀ L s.heap nx) (R : Rep w A σ nx) (hf : σ.Fits 400) (hu : AA.units + 1 < cLine)
    (hka : PS A nx a ok) (tk : TupKeyObj (optKind PP w) ks ok)
    (h : ∀ v h' tk' nx' D', Fr h₀ L h' m → News h₀ L h' nx' → Ext A nx nx' → Rep w A { σ with R := D' } nx' → D'.length ≤ σ.R.length → (∀ ks', Spec.lookup (encTuple encO ks') D' = if ks' = ks then none else Spec.lookup (encTuple encO ks') σ.R) → Q v { s with heap := h', toks := tk' }) :
    wpAny (model PP w) AA (call (.builtin "dict.pop") [.ref A.rw, .ref a, .none]) Q E s := by
  obtain ⟨o, jm, hr⟩ := R.rw
  have hfp := muts1 (A := A) (x := A.rw) (by simp [Ad.muts])
  have NN := News.cons1 (N _ jm) (butL_news (fp := [A.rw]) N)
  refine rows_pop hu F NN (UpdF.head (butL_ne (.head _))) hr (fun p hp => .tail _ (PS.mb hfp hp)) R.st.lows.2.2.2.2.2 (.tail _ (PS.mb hfp hka)) tk (by rw [sizeLine_eq]; have := hf.2.2.2.1; omega) fun v tk' h' o' D' F' N' hr' hlen hlk => ?_
  have hs : ∀ p ∈ butL [A.rw] nx, p ∈ (A.rw, o') :: butL [A.rw] nx := fun p hp => .tail _ hp
  exact h v h' _ _ D' F' N' (Ext.of_but hs hfp) (R.upR hs (.head _) (hr'.mono fun p hp => PS.but hs hfp _ _ hp)) hlen hlk
end

-- 58_unto
theorem pop_sr {w : World} {AA : Around} {h₀ : Heap} {L : Addr} {m : Str → Option Value} {s : Shared} {Q E : Value → Shared → Prop} {nx : List (Addr × Obj)} {A : Ad} {σ : Si} {k : (Option Int × Int) × PyData} {S : List ((Option Int × Int) × PyData)}
    (F : Fr h₀ L s.heap m) (N : News h₀ L s.heap nx) (R : Rep w A σ nx) (hf : σ.Fits 400) (hS : σ.S = S ++ [k])
    (h : ∀ v h' nx', Fr h₀ L h' m → News h₀ L h' nx' → Ext A nx nx' → Rep w A { σ with S := S } nx' → BoundV w A (PS A nx') v k → Q v { s with heap := h' }) :
    wpAny (model PP w) AA (call (.builtin "list.pop") [.ref A.sr]) Q E s := by
  obtain ⟨vs, c, jm, hall⟩ := R.sr
  have hfp := muts1 (A := A) (x := A.sr) (by simp [Ad.muts])
  have hz : vs.length ≤ 400 := by have := hall.length; have := hf.2.2.2.2.2; omega
  rw [hS] at hall
  obtain ⟨vs', v, rfl, hv, hall'⟩ := hall.last
  have NN := News.cons1 (N _ jm) (butL_news (fp := [A.sr]) N)
  have U : Upd A.sr (W.listOf (vs' ++ [v]).toArray c) (W.listOf vs'.toArray (c + 1)) ((A.sr, W.listOf (vs' ++ [v]).toArray c) :: butL [A.sr] nx) ((A.sr, W.listOf vs'.toArray (c + 1)) :: butL [A.sr] nx) := Upd.head (butL_ne (.head _))
  have hs : ∀ p ∈ butL [A.sr] nx, p ∈ (A.sr, W.listOf vs'.toArray (c + 1)) :: butL [A.sr] nx := fun p hp => .tail _ hp
  refine popE F NN U (by rw [sizeLine_eq]; rw [List.length_append] at hz; simp only [List.length_cons, List.length_nil] at hz; omega) fun h' F' N' => ?_
  exact h v h' _ F' N' (Ext.of_but hs hfp) (R.upS hs (.head _) (hall'.mono fun _ _ q => q.mono (PS.but hs hfp))) (hv.mono (PS.but hs hfp))
section
example : True := by
  k_with "call ref" => ((with_reducible show wpAny _ _ (call (Value.ref 390) _) _ _ _); k_here; k_dflt (refine unbind_c (by k_asm) (by k_asm) (by k_asm) (by k_asm) (by rfl) (by k_asm) (by assumption) (by assumption) (by assumption) (by assumption) ?_; k_whole); intro h' tk' nx' F' N' xx' RN)
  trivial
example : True := by
  k_with "mine now" =>
    revert X; k_fill; intro X
    refine wpAny_call ?_
    k_dflt ktr_enter
    refine wpAny_noRaise ?_
    repeat' ((fail_if_success (with_reducible show wpAny _ _ (exec (Stmt.While _ _ _ _) _) _ _ _)); walk_at "mine step")
    rename Fr _ _ _ _ => F1
    rename News _ _ _ _ => N1
    refine While_st [Str.ofString "row"] (fun n nx' => ∃ Sn P, σ.S = Sn ++ P ∧ n = Sn.length ∧ d ≤ Sn.length ∧ Ext A nx nx' ∧ Rep w A { P.reverse.foldl Si.bk σ with S := Sn } nx') F1 N1 ⟨σ.S, [], (List.append_nil _).symm, rfl, hd, Ext.refl, R⟩ ?_
    clear F1 N1
    rintro n u nx1 h₁ tk₁ F1 N1 ⟨Sn, P, hSn, rfl, hdn, x1, R1⟩
    have hP : Sn.length + P.length = σ.S.length := by rw [hSn, List.length_append]
    have hfS : σ.S.length ≤ 100 := hf.2.2.2.2.2
    have hf1 : ({ P.reverse.foldl Si.bk σ with S := Sn } : Si).Fits 300 := Si.Fits.withS ((hf.bks P.reverse).mono (by rw [List.length_reverse]; omega)) (by omega)
    clear R
    walk_at "mine stat"
    have jS1 := RR.wd
    obtain ⟨vs, c, jsr, hall⟩ := RR.sr
    have hvs : vs.length = Sn.length := hall.length
    have hv100 : vs.length ≤ 200 := by omega
    clear hall
    generalize hσ1 : ({ P.reverse.foldl Si.bk σ with S := Sn } : Si) = σ1 at *
    repeat' ((fail_if_success (with_reducible show wpAny _ _ (call (Value.builtin "list.pop") _ _) _ _ _)); walk_at "mine step")
    · rcases List.eq_nil_or_concat Sn with e | ⟨S', k, e⟩
      · exfalso
        rw [e] at hvs
        simp only [List.length_nil] at hvs
        omega
      · rw [List.concat_eq_append] at e
        have hS1 : σ1.S = S' ++ [k] := by rw [← hσ1]; exact e
        have hck : curOk k.1.1 := hc k (by rw [hSn, e]; simp)
        have hf2 : ({ σ1 with S := S' } : Si).Fits 400 := (hf1.mono (by decide)).withS (by rw [e, List.length_append] at hP; omega)
        have hf3 := hf1.mono (show 300 ≤ 400 by decide)
        k_here
        with_reducible show wpAny _ _ (call (Value.builtin _) [Value.ref (Ad.sr _)]) _ _ _
        k_dflt (refine' pop_sr ?F ?N ?R ?hf ?hS ?_; (case F => k_asm); (case N => k_asm); (case R => assumption); (case hf => assumption); (case hS => assumption); k_whole)
        intro v' h' nx' F' N' xx' RN bb'; (have bc' := bb'); obtain ⟨b', bd', t1', t2', t3', t4', t5', t6', y', rfl, pb', pd', fy'⟩ := bb'; (have mb' := pb'.1); (have md' := pd'.1); walk_at "mine stat"; (have jS1 := RR.wd)
        repeat' (walk_at "mine step")
        rename Ext A _ _ => x3
        have hlS : S'.length + 1 + P.length = σ.S.length := by rw [e, List.length_append] at hP; exact hP
        have hlS2 : Sn.length = S'.length + 1 := by rw [e, List.length_append]; rfl
        refine WhileStep.intro (by assumption) (by assumption) (show S'.length < Sn.length by omega) ⟨by walk_at "mine frw", S', k :: P, by rw [hSn, e, List.append_assoc]; rfl, rfl, by omega, x1.trans (xx'.trans x3), ?_⟩
        have e5 : ({ (k :: P).reverse.foldl Si.bk σ with S := S' } : Si) = ({ σ1 with S := S' } : Si).bk k := by
          rw [List.reverse_cons, List.foldl_append, List.foldl_cons, List.foldl_nil, ← hσ1]
          exact (Si.bk_withS _ _ _).symm
        rw [e5]
        show Rep w A (Si.back _ _ _ _) _
        assumption
    · have hl : Sn.length = d := by omega
      have e1 : σ.S.take d = Sn := by rw [hSn, ← hl]; exact List.take_left
      have e2 : σ.S.drop d = P := by rw [hSn, ← hl]; exact List.drop_left
      rw [e1, e2] at h
      exact h _ _ _ (by assumption) (by assumption) x1 (hσ1 ▸ RR)
  trivial
theorem unto_c {w : World} {p : Program} {loose : List Str} {cn : Str} {cs : Scope} {a : Addr} {ccd : Value} {cl : List (Str × Addr)} {base h₀ : Heap} {L : Addr} {m : Str → Option Value} {s : Shared} {Q E : Value → Shared → Prop} 
    {mean : ExcName → Option Value} {mg mb : Str → Option Value} {nx : List (Addr × Obj)} {A : Ad} {σ : Si}
    (B : Below callerA base [] h₀) (F : Fr h₀ L s.heap m) (X : (Kf w.params).In h₀) (T : Top p loose mean mg mb h₀) (hk : cs.kind = .function)
    (N : News h₀ L s.heap nx) (R : Rep w A σ nx)
    {d : Nat} {t : Tok} (hf : σ.Fits 100) (hd : d ≤ σ.S.length) (hc : ∀ k ∈ σ.S, curOk k.1.1)
    (h : ∀ h' tk' nx', Fr h₀ L h' m → News h₀ L h' nx' → Ext A nx nx' → Rep w A { (σ.S.drop d).reverse.foldl Si.bk σ with S := σ.S.take d } nx' → Q .none { s with heap := h', toks := tk' }) :
    wpAny (model PySem.Challenge.rw_np0094_01.row.prog w) (Ar 302 7 cn cs L a ccd cl []) (call (.ref 432) [.ref A.sk, .int (d : Int) t]) Q E s := by
  refine GoalP.out ?_
  simp (disch := k_dflt (walk_at "mine now")) only [↓goalP_of]

end

example : True := by
  k_with_none
  k_with "mine c" => with_reducible first | assumption | exact And.left (by assumption) | exact And.left (And.right (by assumption)) | exact And.left (And.right (And.right (by assumption))) | exact And.left (And.right (And.right (And.right (by assumption)))) | exact And.left (And.right (And.right (And.right (And.right (by assumption))))) | exact And.left (And.right (And.right (And.right (And.right (And.right (by assumption)))))) | exact And.left (And.right (And.right (And.right (And.right (And.right (And.right (by assumption))))))) | exact And.left (And.right (And.right (And.right (And.right (And.right (And.right (And.right (by assumption)))))))) | exact And.left (And.right (And.right (And.right (And.right (And.right (And.right (And.right (And.right (by assumption))))))))) | exact And.left (And.right (And.right (And.right (And.right (And.right (And.right (And.right (And.right (And.right (by assumption)))))))))) | exact And.left (And.right (And.right (And.right (And.right (And.right (And.right (And.right (And.right (And.right (And.right (by assumption))))))))))) | exact And.left (And.right (And.right (And.right (And.right (And.right (And.right (And.right (And.right (And.right (And.right (And.right (by assumption)))))))))))) | exact And.left (And.right (And.right (And.right (And.right (And.right (And.right (And.right (And.right (And.right (And.right (And.right (And.right (by assumption))))))))))))) | exact And.left (And.right (And.right (And.right (And.right (And.right (And.right (And.right (And.right (And.right (And.right (And.right (And.right (And.right (by assumption)))))))))))))) | exact And.right (by assumption) | exact And.right (And.right (by assumption)) | exact And.right (And.right (And.right (by assumption))) | exact And.right (And.right (And.right (And.right (by assumption)))) | exact And.right (And.right (And.right (And.right (And.right (by assumption))))) | exact And.right (And.right (And.right (And.right (And.right (And.right (by assumption)))))) | exact And.right (And.right (And.right (And.right (And.right (And.right (And.right (by assumption)))))))
  k_with "k_all" => first | assumption | exact fun p hp => Nat.ne_of_lt (tb_ltOf (by assumption) p hp) | exact fun p hp => Nat.ne_of_gt (tb_ltOf (by assumption) p hp) | ((repeat (rename _ ∧ _ => q; cases q)); exact fun p hp => Nat.ne_of_lt (tb_ltOf (by assumption) p hp)) | ((repeat (rename _ ∧ _ => q; cases q)); exact fun p hp => Nat.ne_of_gt (tb_ltOf (by assumption) p hp))
  k_with "mine sub" => (intro p hp; (repeat first | exact hp | refine List.Mem.tail _ ?_))
  k_with "mine opt" => first | assumption | exact isOpt_none | exact isOpt_int _ _
  k_with "mine tk" => first | assumption | exact Mine.tk2 (by walk_at "mine opt") (by walk_at "mine opt")
  k_with "compareOp In ref ref" => (k_here; k_dflt (refine rows_in (by exact Nat.le_of_ble_eq_true rfl) (by k_asm) (by assumption) (by walk_at "mine sub") (by k_mem) (by assumption) (by k_mem) (by walk_at "mine tk") ?_; k_whole))
  k_with "compareOp NotIn ref ref" => (k_here; k_dflt (refine rows_notin (by exact Nat.le_of_ble_eq_true rfl) (by k_asm) (by assumption) (by walk_at "mine sub") (by k_mem) (by assumption) (by k_mem) (by walk_at "mine tk") ?_; k_whole))
  k_with "call builtin:dict.get" => (k_here; k_dflt (refine rows_get (by exact Nat.le_of_ble_eq_true rfl) (by k_asm) (by assumption) (by walk_at "mine sub") (by k_mem) (by assumption) (by k_mem) (by walk_at "mine tk") ?_; k_whole); intro v' hv')
  k_with "getMethod ref" => (k_here; (with_reducible show wpAny _ _ (getMethod (Value.ref _) _ _) _ _ _); k_dflt (refine rows_meth (by first | exact PySem.F.slot_dict_get | exact PySem.F.slot_dict_pop) (by rfl) (by k_asm) (by assumption) (by walk_at "mine sub") (by k_mem) (by assumption) ?_; k_whole))
  k_with "subscriptTail" => (k_here; (with_reducible show wpAny _ _ (subscriptTail _ _ (Value.ref _) (Value.ref _)) _ _ _); k_dflt (refine rows_itemS (by exact Nat.le_of_ble_eq_true rfl) (by k_asm) (by assumption) (by walk_at "mine sub") (by k_mem) (by assumption) (by k_mem) (by walk_at "mine tk") (by assumption) ?_ (by with_unfolding_all rfl) (by (intro _; with_unfolding_all rfl)); k_whole); intro v' d' hl' hv')
  k_with "call builtin:len" => (k_here; (with_reducible show wpAny _ _ (call (Value.builtin "len") [Value.ref _]) _ _ _); k_dflt (refine lenL (by k_asm) (by k_mem) (by omega) ?_; k_whole); intro t' tk')
  k_with "call builtin:dict.pop" => (k_here; (with_reducible show wpAny _ _ (call (Value.builtin _) [Value.ref _, Value.int _ _]) _ _ _); k_dflt (refine popI (by k_asm) (by k_asm) (by k_updF) (by assumption) (by assumption) (by assumption) (by omega) ?_; k_whole); intro h' o' v' kvs' D' F' N' hd' hf' hn' hl'; (try dsimp only at N'))
  k_with "setItem ref int" => (k_here; k_dflt (refine setItem_K PyProof.V.same_int (intKind_is _ _ _ _) (by k_flat) (by k_asm) (by k_asm) (by k_updF) (by assumption) (by assumption) ?_ (by (rw [sizeLine_eq]; omega)); ); intro h' o' F' N' hd' hf'; (try dsimp only at N'))
  k_with "call builtin:list.pop" => (k_here; k_dflt (refine pop0 (by k_asm) (by k_asm) (by k_upd) (by (have hq := IntsAre.length (by assumption); rw [sizeLine_eq]; simp only [List.length_cons] at *; omega)) ?_; k_whole); intro h' F' N'; (try dsimp only [List.nil_append, List.cons_append] at N'))
  k_with "call builtin:list.append" => (k_here; (with_reducible show wpAny _ _ (call (Value.builtin _) [Value.ref _, _]) _ _ _); k_dflt (refine appF (by k_asm) (by k_asm) (by first | omega | (simp only [List.length_append, List.length_cons, List.length_nil]; omega)) (by k_upd) ?_; k_whole); intro h' F' N'; (try dsimp only [List.nil_append, List.cons_append] at N'))
  k_with "getItem ref int" => (k_here; k_dflt (refine getItem_some PyProof.V.same_int (intKind_is _ _ _ _) (by k_tabat) (by assumption) ?_; k_whole); intro v' d' hl' hv')
  k_with "mine stat" => (rename Rep _ _ _ _ => RR; refine Rep.use RR ?_; intro hS1 hS2 hS3 oS4 hS4 kS4 hS4' hS4'' hS5 hS6 oS7 hS7 kS7 hS7' hS7'' hS8 hS9 esS10 nS10 hS10 hS10' hS11 hS12 hS13 esS14 nS14 hS14 hS14' hS15 hS16 hS17 hS18 hS19 hS20 hS21 hS22 hS23 hS24 hS25 hS26 gS1 gS2 gS3 gS4 gS5 gS6)
  k_with "mine statS" => (rename Stat _ _ _ => SS; refine Stat.use SS ?_; intro hS1 hS2 hS3 oS4 hS4 kS4 hS4' hS4'' hS5 hS6 oS7 hS7 kS7 hS7' hS7'' hS8 hS9 esS10 nS10 hS10 hS10' hS11 hS12 hS13 esS14 nS14 hS14 hS14' hS15 hS16 hS17 hS18 hS19 hS20 hS21 hS22 hS23 hS24 hS25 hS26 gS1 gS2 gS3 gS4 gS5 gS6)
  k_with "mine dyn" => (rename Rep _ _ _ _ => RR; refine Rep.dyn RR ?_; intro jS1 odS jS2 kdS jS2' jS2'' o0S jS3 k0S jS3' jS3'' o1S jS4 k1S jS4' jS4'')
  k_with "mine fr" => (intro z q1 q2; (try dsimp only); first | (rw [if_neg q1, q2]; rfl) | (have q3 := q2; simp only [List.contains_cons, List.contains_nil, Bool.or_false, Bool.or_eq_false_iff, beq_eq_false_iff_ne, ne_eq] at q3; simp only [q1, q2, q3, if_false, List.contains_nil, Bool.false_eq_true]))
  k_with "mine frw" => (intro z q2; (try dsimp only); have q3 := q2; simp only [List.contains_cons, List.contains_nil, Bool.or_false, Bool.or_eq_false_iff, beq_eq_false_iff_ne, ne_eq] at q3; simp only [q2, q3, if_false, List.contains_nil, Bool.false_eq_true])
  k_with "k_handed" => exact flat_handed (by assumption)
  k_with "k_get" => assumption
  k_with "execs cons" => (k_here; first | k_gentoks | (refine execsG ?_; intro Q' hn hr))
  k_with "k_mem" => (change (_ : Addr × Obj) ∈ (_ : List (Addr × Obj)); ktr_member)
  trivial
-- 59_lun
section
example : True := by
  k_with "setItem ref ref" => (k_here; (with_reducible show wpAny _ _ (setItem (Value.ref (Ad.rw _)) (Value.ref _) _) _ _ _); k_dflt (refine set_rw (by k_asm) (by k_asm) (by assumption) (by assumption) (by exact Nat.le_of_ble_eq_true rfl) (by assumption) (by assumption) (by walk_at "mine tk") ?_; k_whole); intro h' tk' nx' F' N' xx' RN)
  trivial
example : True := by
  k_with "mine now" =>
    revert X; k_fill; intro X
    refine wpAny_call ?_
    k_dflt ktr_enter
    refine wpAny_noRaise ?_
    repeat' ((fail_if_success (with_reducible show wpAny _ _ (exec (Stmt.While _ _ _ _) _) _ _ _)); walk_at "mine step")
    rename Fr _ _ _ _ => F1
    rename News _ _ _ _ => N1
    refine While_st [Str.ofString "place", Str.ofString "value"] (fun n nx' => ∃ Kn P, σ.K = Kn ++ P ∧ n = Kn.length ∧ d ≤ Kn.length ∧ Ext A nx nx' ∧ Rep w A { σ with K := Kn, R := P.reverse.foldl bkR σ.R } nx') F1 N1 ⟨σ.K, [], (List.append_nil _).symm, rfl, hd, Ext.refl, R⟩ ?_
    clear F1 N1
    rintro n u nx1 h₁ tk₁ F1 N1 ⟨Kn, P, hKn, rfl, hdn, x1, RR⟩
    have hP : Kn.length + P.length = σ.K.length := by rw [hKn, List.length_append]
    have hfK : σ.K.length ≤ 100 := hf.2.2.2.2.1
    have hfR : σ.R.length ≤ 100 := hf.2.2.2.1
    have hRn : (P.reverse.foldl bkR σ.R).length ≤ 200 := by have := bkRs_len P.reverse σ.R; rw [List.length_reverse] at this; omega
    clear R
    obtain ⟨vs, c, jkp, hall⟩ := RR.kp
    have hvs : vs.length = Kn.length := hall.length
    have hv100 : vs.length ≤ 200 := by omega
    clear hall
    generalize hR1 : P.reverse.foldl bkR σ.R = R1 at *
    repeat' ((fail_if_success (with_reducible show wpAny _ _ (call (Value.builtin "list.pop") _ _) _ _ _)); walk_at "mine step")
    · rcases List.eq_nil_or_concat Kn with e | ⟨K', k, e⟩
      · exfalso
        rw [e] at hvs
        simp only [List.length_nil] at hvs
        omega
      · rw [List.concat_eq_append] at e
        have hlS : K'.length + 1 + P.length = σ.K.length := by rw [e, List.length_append] at hP; exact hP
        have hlS2 : Kn.length = K'.length + 1 := by rw [e, List.length_append]; rfl
        have hK1 : ({ σ with K := Kn, R := R1 } : Si).K = K' ++ [k] := e
        have hf1 : ({ σ with K := Kn, R := R1 } : Si).Fits 400 := hf.withKR (by decide) (by omega) (by omega)
        have hf2 : ({ σ with K := K', R := R1 } : Si).Fits 400 := hf.withKR (by decide) (by omega) (by omega)
        k_here
        k_dflt (refine' pop_kp ?F ?N ?R ?hf ?hS ?_; (case F => k_asm); (case N => k_asm); (case R => assumption); (case hf => assumption); (case hS => assumption); k_whole)
        intro v' h' nx' F' N' xq1 RN bb'
        obtain ⟨a', pl', x', n1', n2', c', nv', rfl, pa', pl2', hc', hn', hx'⟩ := bb'
        obtain ⟨⟨kc, kn⟩, kd⟩ := k
        dsimp only at hc' hn' hx'
        have ma' := pa'.1
        have ml' := pl2'.1
        obtain ⟨ro, mr', hr'⟩ := RN.rw
        have hr2 : RowsO PP w (fun p => p ∈ nx') ro R1 := hr'.mono fun p hp => hp.1
        have lo' := RN.st.lows.2.2.2.2.2
        rcases isOpt_shape hc' with ⟨rfl, rfl⟩ | ⟨ci, ct, rfl, rfl⟩
        · repeat' (walk_at "mine step")
          · refine WhileStep.intro (by assumption) (by assumption) (show K'.length < Kn.length by omega) ⟨by walk_at "mine frw", K', ((none, kn), kd) :: P, by rw [hKn, e, List.append_assoc]; rfl, rfl, by omega, (x1.trans xq1).trans (by assumption), ?_⟩
            rw [show ((((none, kn), kd) :: P).reverse.foldl bkR σ.R) = PyProof.V.putD (encTuple encO [none, some kn]) kd R1 by rw [List.reverse_cons, List.foldl_append, List.foldl_cons, List.foldl_nil, hR1]; unfold bkR; exact if_pos (.inl rfl)]
            assumption
        · repeat' (walk_at "mine step")
          · rename Option.isSome _ = true => hl
            refine WhileStep.intro (by assumption) (by assumption) (show K'.length < Kn.length by omega) ⟨by walk_at "mine frw", K', ((some ci, kn), kd) :: P, by rw [hKn, e, List.append_assoc]; rfl, rfl, by omega, (x1.trans xq1).trans (by assumption), ?_⟩
            rw [show ((((some ci, kn), kd) :: P).reverse.foldl bkR σ.R) = PyProof.V.putD (encTuple encO [some ci, some kn]) kd R1 by rw [List.reverse_cons, List.foldl_append, List.foldl_cons, List.foldl_nil, hR1]; unfold bkR; exact if_pos (.inr hl)]
            assumption
          · rename Option.isSome _ = false => hl
            refine WhileStep.intro (by assumption) (by assumption) (show K'.length < Kn.length by omega) ⟨by walk_at "mine frw", K', ((some ci, kn), kd) :: P, by rw [hKn, e, List.append_assoc]; rfl, rfl, by omega, x1.trans xq1, ?_⟩
            rw [show ((((some ci, kn), kd) :: P).reverse.foldl bkR σ.R) = R1 by rw [List.reverse_cons, List.foldl_append, List.foldl_cons, List.foldl_nil, hR1]; unfold bkR; exact if_neg (fun q => q.elim (fun q => nomatch q) (fun q => absurd (hl.symm.trans q) Bool.false_ne_true))]
            assumption
    · have hl : Kn.length = d := by omega
      have e1 : σ.K.take d = Kn := by rw [hKn, ← hl]; exact List.take_left
      have e2 : σ.K.drop d = P := by rw [hKn, ← hl]; exact List.drop_left
      rw [e1, e2, hR1] at h
      exact h _ _ _ (by assumption) (by assumption) x1 RR
  trivial
theorem lun_c {w : World} {p : Program} {loose : List Str} {cn : Str} {cs : Scope} {a : Addr} {ccd : Value} {cl : List (Str × Addr)} {base h₀ : Heap} {L : Addr} {m : Str → Option Value} {s : Shared} {Q E : Value → Shared → Prop} 
    {mean : ExcName → Option Value} {mg mb : Str → Option Value} {nx : List (Addr × Obj)} {A : Ad} {σ : Si}
    (B : Below callerA base [] h₀) (F : Fr h₀ L s.heap m) (X : (Kf w.params).In h₀) (T : Top p loose mean mg mb h₀) (hk : cs.kind = .function)
    (N : News h₀ L s.heap nx) (R : Rep w A σ nx)
    {d : Nat} {t : Tok} (hf : σ.Fits 100) (hd : d ≤ σ.K.length)
    (h : ∀ h' tk' nx', Fr h₀ L h' m → News h₀ L h' nx' → Ext A nx nx' → Rep w A { σ with K := σ.K.take d, R := (σ.K.drop d).reverse.foldl bkR σ.R } nx' → Q .none { s with heap := h', toks := tk' }) :
    wpAny (model PySem.Challenge.rw_np0094_01.row.prog w) (Ar 302 7 cn cs L a ccd cl []) (call (.ref 870) [.ref A.rw, .ref A.kp, .int (d : Int) t]) Q E s := by
  refine GoalP.out ?_
  simp (disch := k_dflt (walk_at "mine now")) only [↓goalP_of]

end

example : True := by
  k_with_none
  k_with "mine c" => with_reducible first | assumption | exact And.left (by assumption) | exact And.left (And.right (by assumption)) | exact And.left (And.right (And.right (by assumption))) | exact And.left (And.right (And.right (And.right (by assumption)))) | exact And.left (And.right (And.right (And.right (And.right (by assumption))))) | exact And.left (And.right (And.right (And.right (And.right (And.right (by assumption)))))) | exact And.left (And.right (And.right (And.right (And.right (And.right (And.right (by assumption))))))) | exact And.left (And.right (And.right (And.right (And.right (And.right (And.right (And.right (by assumption)))))))) | exact And.left (And.right (And.right (And.right (And.right (And.right (And.right (And.right (And.right (by assumption))))))))) | exact And.left (And.right (And.right (And.right (And.right (And.right (And.right (And.right (And.right (And.right (by assumption)))))))))) | exact And.left (And.right (And.right (And.right (And.right (And.right (And.right (And.right (And.right (And.right (And.right (by assumption))))))))))) | exact And.left (And.right (And.right (And.right (And.right (And.right (And.right (And.right (And.right (And.right (And.right (And.right (by assumption)))))))))))) | exact And.left (And.right (And.right (And.right (And.right (And.right (And.right (And.right (And.right (And.right (And.right (And.right (And.right (by assumption))))))))))))) | exact And.left (And.right (And.right (And.right (And.right (And.right (And.right (And.right (And.right (And.right (And.right (And.right (And.right (And.right (by assumption)))))))))))))) | exact And.right (by assumption) | exact And.right (And.right (by assumption)) | exact And.right (And.right (And.right (by assumption))) | exact And.right (And.right (And.right (And.right (by assumption)))) | exact And.right (And.right (And.right (And.right (And.right (by assumption))))) | exact And.right (And.right (And.right (And.right (And.right (And.right (by assumption)))))) | exact And.right (And.right (And.right (And.right (And.right (And.right (And.right (by assumption)))))))
  k_with "k_all" => first | assumption | exact fun p hp => Nat.ne_of_lt (tb_ltOf (by assumption) p hp) | exact fun p hp => Nat.ne_of_gt (tb_ltOf (by assumption) p hp) | ((repeat (rename _ ∧ _ => q; cases q)); exact fun p hp => Nat.ne_of_lt (tb_ltOf (by assumption) p hp)) | ((repeat (rename _ ∧ _ => q; cases q)); exact fun p hp => Nat.ne_of_gt (tb_ltOf (by assumption) p hp))
  k_with "mine sub" => (intro p hp; (repeat first | exact hp | refine List.Mem.tail _ ?_))
  k_with "mine opt" => first | assumption | exact isOpt_none | exact isOpt_int _ _
  k_with "mine tk" => first | assumption | exact Mine.tk2 (by walk_at "mine opt") (by walk_at "mine opt")
  k_with "compareOp In ref ref" => (k_here; k_dflt (refine rows_in (by exact Nat.le_of_ble_eq_true rfl) (by k_asm) (by assumption) (by walk_at "mine sub") (by k_mem) (by assumption) (by k_mem) (by walk_at "mine tk") ?_; k_whole))
  k_with "compareOp NotIn ref ref" => (k_here; k_dflt (refine rows_notin (by exact Nat.le_of_ble_eq_true rfl) (by k_asm) (by assumption) (by walk_at "mine sub") (by k_mem) (by assumption) (by k_mem) (by walk_at "mine tk") ?_; k_whole))
  k_with "call builtin:dict.get" => (k_here; k_dflt (refine rows_get (by exact Nat.le_of_ble_eq_true rfl) (by k_asm) (by assumption) (by walk_at "mine sub") (by k_mem) (by assumption) (by k_mem) (by walk_at "mine tk") ?_; k_whole); intro v' hv')
  k_with "getMethod ref" => (k_here; (with_reducible show wpAny _ _ (getMethod (Value.ref _) _ _) _ _ _); k_dflt (refine rows_meth (by first | exact PySem.F.slot_dict_get | exact PySem.F.slot_dict_pop) (by rfl) (by k_asm) (by assumption) (by walk_at "mine sub") (by k_mem) (by assumption) ?_; k_whole))
  k_with "subscriptTail" => (k_here; (with_reducible show wpAny _ _ (subscriptTail _ _ (Value.ref _) (Value.ref _)) _ _ _); k_dflt (refine rows_itemS (by exact Nat.le_of_ble_eq_true rfl) (by k_asm) (by assumption) (by walk_at "mine sub") (by k_mem) (by assumption) (by k_mem) (by walk_at "mine tk") (by assumption) ?_ (by with_unfolding_all rfl) (by (intro _; with_unfolding_all rfl)); k_whole); intro v' d' hl' hv')
  k_with "call builtin:len" => (k_here; (with_reducible show wpAny _ _ (call (Value.builtin "len") [Value.ref _]) _ _ _); k_dflt (refine lenL (by k_asm) (by k_mem) (by omega) ?_; k_whole); intro t' tk')
  k_with "call builtin:dict.pop" => (k_here; (with_reducible show wpAny _ _ (call (Value.builtin _) [Value.ref _, Value.int _ _]) _ _ _); k_dflt (refine popI (by k_asm) (by k_asm) (by k_updF) (by assumption) (by assumption) (by assumption) (by omega) ?_; k_whole); intro h' o' v' kvs' D' F' N' hd' hf' hn' hl'; (try dsimp only at N'))
  k_with "setItem ref int" => (k_here; k_dflt (refine setItem_K PyProof.V.same_int (intKind_is _ _ _ _) (by k_flat) (by k_asm) (by k_asm) (by k_updF) (by assumption) (by assumption) ?_ (by (rw [sizeLine_eq]; omega)); ); intro h' o' F' N' hd' hf'; (try dsimp only at N'))
  k_with "call builtin:list.pop" => (k_here; k_dflt (refine pop0 (by k_asm) (by k_asm) (by k_upd) (by (have hq := IntsAre.length (by assumption); rw [sizeLine_eq]; simp only [List.length_cons] at *; omega)) ?_; k_whole); intro h' F' N'; (try dsimp only [List.nil_append, List.cons_append] at N'))
  k_with "call builtin:list.append" => (k_here; (with_reducible show wpAny _ _ (call (Value.builtin _) [Value.ref _, _]) _ _ _); k_dflt (refine appF (by k_asm) (by k_asm) (by first | omega | (simp only [List.length_append, List.length_cons, List.length_nil]; omega)) (by k_upd) ?_; k_whole); intro h' F' N'; (try dsimp only [List.nil_append, List.cons_append] at N'))
  k_with "getItem ref int" => (k_here; k_dflt (refine getItem_some PyProof.V.same_int (intKind_is _ _ _ _) (by k_tabat) (by assumption) ?_; k_whole); intro v' d' hl' hv')
  k_with "mine stat" => (rename Rep _ _ _ _ => RR; refine Rep.use RR ?_; intro hS1 hS2 hS3 oS4 hS4 kS4 hS4' hS4'' hS5 hS6 oS7 hS7 kS7 hS7' hS7'' hS8 hS9 esS10 nS10 hS10 hS10' hS11 hS12 hS13 esS14 nS14 hS14 hS14' hS15 hS16 hS17 hS18 hS19 hS20 hS21 hS22 hS23 hS24 hS25 hS26 gS1 gS2 gS3 gS4 gS5 gS6)
  k_with "mine statS" => (rename Stat _ _ _ => SS; refine Stat.use SS ?_; intro hS1 hS2 hS3 oS4 hS4 kS4 hS4' hS4'' hS5 hS6 oS7 hS7 kS7 hS7' hS7'' hS8 hS9 esS10 nS10 hS10 hS10' hS11 hS12 hS13 esS14 nS14 hS14 hS14' hS15 hS16 hS17 hS18 hS19 hS20 hS21 hS22 hS23 hS24 hS25 hS26 gS1 gS2 gS3 gS4 gS5 gS6)
  k_with "mine dyn" => (rename Rep _ _ _ _ => RR; refine Rep.dyn RR ?_; intro jS1 odS jS2 kdS jS2' jS2'' o0S jS3 k0S jS3' jS3'' o1S jS4 k1S jS4' jS4'')
  k_with "mine fr" => (intro z q1 q2; (try dsimp only); first | (rw [if_neg q1, q2]; rfl) | (have q3 := q2; simp only [List.contains_cons, List.contains_nil, Bool.or_false, Bool.or_eq_false_iff, beq_eq_false_iff_ne, ne_eq] at q3; simp only [q1, q2, q3, if_false, List.contains_nil, Bool.false_eq_true]))
  k_with "mine frw" => (intro z q2; (try dsimp only); have q3 := q2; simp only [List.contains_cons, List.contains_nil, Bool.or_false, Bool.or_eq_false_iff, beq_eq_false_iff_ne, ne_eq] at q3; simp only [q2, q3, if_false, List.contains_nil, Bool.false_eq_true])
  k_with "k_handed" => exact flat_handed (by assumption)
  k_with "k_get" => assumption
  k_with "execs cons" => (k_here; first | k_gentoks | (refine execsG ?_; intro Q' hn hr))
  k_with "k_mem" => (change (_ : Addr × Obj) ∈ (_ : List (Addr × Obj)); ktr_member)
  trivial
-- 59b_zero
theorem lun_z {w : World} {p : Program} {loose : List Str} {cn : Str} {cs : Scope} {a : Addr} {ccd : Value} {cl : List (Str × Addr)} {base h₀ : Heap} {L : Addr} {m : Str → Option Value} {s : Shared} {Q E : Value → Shared → Prop} 
    {mean : ExcName → Option Value} {mg mb : Str → Option Value} {nx : List (Addr × Obj)} {A : Ad} {σ : Si}
    (B : Below callerA base [] h₀) (F : Fr h₀ L s.heap m) (X : (Kf w.params).In h₀) (T : Top p loose mean mg mb h₀) (hk : cs.kind = .function)
    (N : News h₀ L s.heap nx) (R : Rep w A σ nx)
    {t : Tok} (hf : σ.Fits 100)
    (h : ∀ h' tk' nx', Fr h₀ L h' m → News h₀ L h' nx' → Ext A nx nx' → Rep w A { σ with K := σ.K.take 0, R := (σ.K.drop 0).reverse.foldl bkR σ.R } nx' → Q .none { s with heap := h', toks := tk' }) :
    wpAny (model PySem.Challenge.rw_np0094_01.row.prog w) (Ar 302 7 cn cs L a ccd cl []) (call (.ref 870) [.ref A.rw, .ref A.kp, .int 0 t]) Q E s := by
  exact lun_c (d := 0) B F X T hk N R hf (Nat.zero_le _) h
theorem unto_z {w : World} {p : Program} {loose : List Str} {cn : Str} {cs : Scope} {a : Addr} {ccd : Value} {cl : List (Str × Addr)} {base h₀ : Heap} {L : Addr} {m : Str → Option Value} {s : Shared} {Q E : Value → Shared → Prop} 
    {mean : ExcName → Option Value} {mg mb : Str → Option Value} {nx : List (Addr × Obj)} {A : Ad} {σ : Si}
    (B : Below callerA base [] h₀) (F : Fr h₀ L s.heap m) (X : (Kf w.params).In h₀) (T : Top p loose mean mg mb h₀) (hk : cs.kind = .function)
    (N : News h₀ L s.heap nx) (R : Rep w A σ nx)
    {t : Tok} (hf : σ.Fits 100) (hc : ∀ k ∈ σ.S, curOk k.1.1)
    (h : ∀ h' tk' nx', Fr h₀ L h' m → News h₀ L h' nx' → Ext A nx nx' → Rep w A { (σ.S.drop 0).reverse.foldl Si.bk σ with S := σ.S.take 0 } nx' → Q .none { s with heap := h', toks := tk' }) :
    wpAny (model PySem.Challenge.rw_np0094_01.row.prog w) (Ar 302 7 cn cs L a ccd cl []) (call (.ref 432) [.ref A.sk, .int 0 t]) Q E s := by
  exact unto_c (d := 0) B F X T hk N R hf (Nat.zero_le _) hc h
theorem depth_z {w : World} {p : Program} {loose : List Str} {cn : Str} {cs : Scope} {a : Addr} {ccd : Value} {cl : List (Str × Addr)} {base h₀ : Heap} {L : Addr} {m : Str → Option Value} {s : Shared} {Q E : Value → Shared → Prop} 
    {mean : ExcName → Option Value} {mg mb : Str → Option Value} {nx : List (Addr × Obj)} {A : Ad} {σ : Si}
    (B : Below callerA base [] h₀) (F : Fr h₀ L s.heap m) (X : (Kf w.params).In h₀) (T : Top p loose mean mg mb h₀) (hk : cs.kind = .function)
    (N : News h₀ L s.heap nx) (R : Rep w A σ nx)
    (hf : σ.Fits 100) (h0 : σ.S.length = 0) (h : ∀ t h' tk', Fr h₀ L h' m → News h₀ L h' nx → Q (.int 0 t) { s with heap := h', toks := tk' }) :
    wpAny (model PySem.Challenge.rw_np0094_01.row.prog w) (Ar 302 7 cn cs L a ccd cl []) (call (.ref 411) [.ref A.sk]) Q E s := by
  refine depth_c B F X T hk N R hf fun t h' tk' F' N' => ?_
  rw [h0]
  exact h t h' tk' F' N'

-- 60_konst
/-- what bind refuses: nil, t, and a keyword -/
def Konst (w : World) (v : Value) (ex : List (Addr × Obj)) : Prop := v = .ref 64 ∨ v = .ref 67 ∨ ∃ sy z u1 u2 u3 tn k, v = .ref sy ∧ (sy, instObj 58 z) ∈ ex ∧ (z, dictOf [en w "number" u1 (.int k u2), en w "name" u3 (.str (Str.ofString ":key") tn)] 2) ∈ ex
theorem Konst.mono {w : World} {v : Value} {ex ex' : List (Addr × Obj)} (h : Konst w v ex) (s : ∀ q ∈ ex, q ∈ ex') : Konst w v ex' := by
  rcases h with h | h | ⟨sy, z, u1, u2, u3, tn, k, e, m1, m2⟩
  · exact .inl h
  · exact .inr (.inl h)
  · exact .inr (.inr ⟨sy, z, u1, u2, u3, tn, k, e, s _ m1, s _ m2⟩)
example : True := by
  k_with "mine now" =>
    rcases hv with rfl | rfl | ⟨sy, z, u1, u2, u3, tn, k, rfl, m1, m2⟩
    · skip
      revert X; k_fill; intro X
      refine wpAny_call ?_
      k_dflt ktr_enter
      refine wpAny_noRaise ?_
      repeat' (walk_at "mine step")
      rw [show ([0, 1].any fun x => x == (0 : Int)) = true by decide]
      exact h _ _ (by assumption) (News.tail (by assumption))
    · skip
      revert X; k_fill; intro X
      refine wpAny_call ?_
      k_dflt ktr_enter
      refine wpAny_noRaise ?_
      repeat' (walk_at "mine step")
      rw [show ([0, 1].any fun x => x == (1 : Int)) = true by decide]
      exact h _ _ (by assumption) (News.tail (by assumption))
    · skip
      revert X; k_fill; intro X
      refine wpAny_call ?_
      k_dflt ktr_enter
      refine wpAny_noRaise ?_
      repeat' (walk_at "mine step")
      · rename (List.any _ _) = true => hk1
        rw [hk1]
        exact h _ _ (by assumption) (News.tail (by assumption))
      · rw [show (Txt.slice (Str.ofString ":key") none (some 1) == Str.ofString ":") = true by decide]
        exact h _ _ (by assumption) (News.tail (by assumption))

  trivial
theorem isk_c {w : World} {p : Program} {loose : List Str} {cn : Str} {cs : Scope} {a : Addr} {ccd : Value} {cl : List (Str × Addr)} {base h₀ : Heap} {L : Addr} {m : Str → Option Value} {s : Shared} {Q E : Value → Shared → Prop} {e1 : Env} {A₀ : Around}
    {mean : ExcName → Option Value} {mg mb : Str → Option Value} {ex : List (Addr × Obj)}
    (B : Below A₀ base [e1] h₀) (F : Fr h₀ L s.heap m) (X : (Kf w.params).In h₀) (T : Top p loose mean mg mb h₀) (hk : cs.kind = .function)
    {v : Value} (hv : Konst w v ex) (N : News h₀ L s.heap ex) (h : ∀ h' tk', Fr h₀ L h' m → News h₀ L h' ex → Q (.bool true) { s with heap := h', toks := tk' }) :
    wpAny (model PySem.Challenge.rw_np0094_01.row.prog w) (Ar 303 10 cn cs L a ccd cl [e1]) (call (.ref 138) [v]) Q E s := by
  refine GoalP.out ?_
  simp (disch := k_dflt (walk_at "mine now")) only [↓goalP_of]

-- 61_refuse
theorem ns_of {K : Frag} {h : Heap} {N : Addr} {mg : Str → Option Value} {n : Str} {v : Value} (X : K.In h) (G : h.Ns N mg) (e : nsIn K N n = some (some v)) : mg n = some v := by
  obtain ⟨o, es, ep, ho, hd, _, hf⟩ := G
  unfold nsIn at e
  split at e
  · rename_i hl
    have y := X _ _ hl
    rw [ho] at y; cases y; cases hd
    split at e
    · rename_i en he
      cases e
      rw [← hf]
      unfold nsFind findBy
      rw [← Array.find?_toList, he]; rfl
    · split at e <;> cases e
  · cases e
def strKeys (o : Obj) : Bool := match o.data with
  | .dict es _ => es.toList.all fun e => match e.key with | .str _ _ => true | _ => false
  | _ => false
theorem ns_at {K : Frag} {h : Heap} {N : Addr} {o : Obj} (X : K.In h) (e : K.lookup N = some o) (q : strKeys o = true) : h.Ns N (h.nsMap N) := by
  refine .of_isNs ?_
  unfold Heap.isNs
  rw [X _ _ e]
  obtain ⟨_, _, dt, _⟩ := o
  cases dt with
  | dict es n => show Array.all es _ = true; rw [← Array.all_toList]; exact q
  | _ => cases q
section
example : True := by
  k_with "call ref" => ((with_reducible show wpAny _ _ (call (Value.ref 138) _) _ _ _); k_here; k_dflt (refine isk_c (by k_asm) (by k_asm) (by k_asm) (by k_asm) (by rfl) (by assumption) (by k_asm) ?_; k_whole); intro h' tk' F' N')
  trivial
example : True := by
  k_with "setAttr ref" => (k_here; k_dflt (first
  | (refine storeE_first (by k_asm) (by k_asm) (by k_asm) (by assumption) (by assumption) (by k_is) (by k_is) ?_; k_whole; intro D h' F' N' l1 l2)
  | (refine storeE_next (by k_asm) (by k_asm) (by k_asm) (fun p hp => Nat.ne_of_lt ((by assumption : ∀ p ∈ _, p.1 < _) p hp)) (Nat.ne_of_lt (by assumption)) (by assumption) (by k_is) (by k_is) (by k_get) (by k_put) (by exact Nat.le_of_ble_eq_true rfl) ?_; k_whole; intro h' F' N')))
  trivial
example : True := by
  k_with "mine now" =>
    subst hb
    revert X; k_fill; intro X
    obtain ⟨cd0, hP⟩ : ∃ cd0, Passes (Kf w.params) 38 cd0 := ⟨_, by k_is, rfl, by decide, rfl, fun self => by
      show refuseLoop self _ [_, _, _, _] = _
      rw [refuseLoop_ref]; exact PySem.F.store_Exception.passes self⟩
    refine wpAny_call ?_
    k_dflt ktr_enter
    repeat' ((fail_if_success (with_reducible show wpAny _ _ (exec (Stmt.Raise _ _ _) _) _ _ _)); walk_at "mine step")
    k_here
    k_dflt (refine' raise_init ?F4 ?X4 ?T4 ?ex4 ?hC4 PySem.F.excBase_Exception ?hn4 ?hi4 ?hI4 ?hIc4 ?hh4 ?_ ?a4 ?b4 ?c4 ?d4 ?e4; (case F4 => k_asm); (case X4 => k_asm); (case T4 => k_asm); (case ex4 => k_is); (case hC4 => k_is); (case hn4 => exact ns_at (by k_asm) (by k_is) (by rfl)); (case hi4 => exact ns_of (by k_asm) (ns_at (by k_asm) (by k_is) (by rfl)) (by k_is)); (case hI4 => k_is); (case hIc4 => rfl); (case hh4 => rfl); (case a4 => rfl); (case b4 => rfl); (case c4 => rfl); (case d4 => rfl); (case e4 => decide); k_whole)
    repeat' (walk_at "mine step")
    rename Heap.MadeExcOf _ _ _ _ _ => hx4
    obtain ⟨t6, F5, N5, hne5⟩ := made_news (by assumption) (by assumption) hx4 (by intro q; cases q)
    refine wpAny_call ?_
    k_dflt k_enter
    repeat' ((fail_if_success (with_reducible show LeaveK _ _ _ _ _ _ _)); walk_at "mine step")
    walk_at "LeaveK"
    rename Fr _ _ _ _ => kF5
    rename News _ _ _ _ => kN5
    refine ⟨t6, _, _, Fr.keep kF5, (kN5 _ (.tail _ (.head _))).1, ?_⟩
    (try dsimp only)
    k_here
    refine leave_raiseD (by assumption) kF5 (News.cons1 (kN5 _ (.tail _ (.head _))) (News.cons1 (kN5 _ (.head _)) (News.tail (News.tail (News.tail kN5))))) ?ne6 rfl ?_
    case ne6 =>
      intro q hq
      rcases List.mem_cons.mp hq with rfl | hq
      · exact Nat.ne_of_gt (by assumption)
      · exact hne5 q (.tail _ hq)
    intro h9 R9 U9
    have st9 : ∀ b o, base.get? b = some o → h9.get? b = some o := by
      obtain ⟨B9, hB9, _, hF9⟩ := R9
      exact fun b o z => hF9.1 b o (hB9 b o z)
    exact h _ _ _ _ _ _ _ _ R9 (Fr.of_stays (by assumption) st9 U9)
  trivial
theorem refuse_c {w : World} {p : Program} {loose : List Str} {cn : Str} {cs : Scope} {a : Addr} {ccd : Value} {cl : List (Str × Addr)} {base h₀ : Heap} {L : Addr} {m : Str → Option Value} {s : Shared} {Q E : Value → Shared → Prop} 
    {mean : ExcName → Option Value} {mg mb : Str → Option Value} {ex : List (Addr × Obj)}
    (B : Below callerA base [] h₀) (F : Fr h₀ L s.heap m) (X : (Kf w.params).In h₀) (T : Top p loose mean mg mb h₀) (hk : cs.kind = .function)
    {v : Value} {t : Tok} {sk sd : Addr} (hb : base = h₀) (hv : Konst w v ex) (msk : (sk, instObj 435 sd) ∈ ex) (N : News h₀ L s.heap ex)
    (h : ∀ e D lst t1 t2 t3 h' tk', RaisedD h₀ [envX cn cs L a ccd cl] e (.ref 38) D ((D, dictOf [en w "symbol" t1 (.str (Str.ofString "setting-constant") t3), en w "data" t2 (.ref lst)] 2) :: (lst, W.listOf #[v] 0) :: ex) h' → Fr h₀ L h' m → E (.ref e) { s with heap := h', toks := tk' }) :
    wpAny (model PySem.Challenge.rw_np0094_01.row.prog w) (Ar 302 7 cn cs L a ccd cl []) (call (.ref 418) [.ref sk, v, .int 1 t]) Q E s := by
  refine GoalP.out ?_
  simp (disch := k_dflt (walk_at "mine now")) only [↓goalP_of]

end

example : True := by
  k_with_none
  k_with "mine c" => with_reducible first | assumption | exact And.left (by assumption) | exact And.left (And.right (by assumption)) | exact And.left (And.right (And.right (by assumption))) | exact And.left (And.right (And.right (And.right (by assumption)))) | exact And.left (And.right (And.right (And.right (And.right (by assumption))))) | exact And.left (And.right (And.right (And.right (And.right (And.right (by assumption)))))) | exact And.left (And.right (And.right (And.right (And.right (And.right (And.right (by assumption))))))) | exact And.left (And.right (And.right (And.right (And.right (And.right (And.right (And.right (by assumption)))))))) | exact And.left (And.right (And.right (And.right (And.right (And.right (And.right (And.right (And.right (by assumption))))))))) | exact And.left (And.right (And.right (And.right (And.right (And.right (And.right (And.right (And.right (And.right (by assumption)))))))))) | exact And.left (And.right (And.right (And.right (And.right (And.right (And.right (And.right (And.right (And.right (And.right (by assumption))))))))))) | exact And.left (And.right (And.right (And.right (And.right (And.right (And.right (And.right (And.right (And.right (And.right (And.right (by assumption)))))))))))) | exact And.left (And.right (And.right (And.right (And.right (And.right (And.right (And.right (And.right (And.right (And.right (And.right (And.right (by assumption))))))))))))) | exact And.left (And.right (And.right (And.right (And.right (And.right (And.right (And.right (And.right (And.right (And.right (And.right (And.right (And.right (by assumption)))))))))))))) | exact And.right (by assumption) | exact And.right (And.right (by assumption)) | exact And.right (And.right (And.right (by assumption))) | exact And.right (And.right (And.right (And.right (by assumption)))) | exact And.right (And.right (And.right (And.right (And.right (by assumption))))) | exact And.right (And.right (And.right (And.right (And.right (And.right (by assumption)))))) | exact And.right (And.right (And.right (And.right (And.right (And.right (And.right (by assumption)))))))
  k_with "k_all" => first | assumption | exact fun p hp => Nat.ne_of_lt (tb_ltOf (by assumption) p hp) | exact fun p hp => Nat.ne_of_gt (tb_ltOf (by assumption) p hp) | ((repeat (rename _ ∧ _ => q; cases q)); exact fun p hp => Nat.ne_of_lt (tb_ltOf (by assumption) p hp)) | ((repeat (rename _ ∧ _ => q; cases q)); exact fun p hp => Nat.ne_of_gt (tb_ltOf (by assumption) p hp))
  k_with "mine sub" => (intro p hp; (repeat first | exact hp | refine List.Mem.tail _ ?_))
  k_with "mine opt" => first | assumption | exact isOpt_none | exact isOpt_int _ _
  k_with "mine tk" => first | assumption | exact Mine.tk2 (by walk_at "mine opt") (by walk_at "mine opt")
  k_with "compareOp In ref ref" => (k_here; k_dflt (refine rows_in (by exact Nat.le_of_ble_eq_true rfl) (by k_asm) (by assumption) (by walk_at "mine sub") (by k_mem) (by assumption) (by k_mem) (by walk_at "mine tk") ?_; k_whole))
  k_with "compareOp NotIn ref ref" => (k_here; k_dflt (refine rows_notin (by exact Nat.le_of_ble_eq_true rfl) (by k_asm) (by assumption) (by walk_at "mine sub") (by k_mem) (by assumption) (by k_mem) (by walk_at "mine tk") ?_; k_whole))
  k_with "call builtin:dict.get" => (k_here; k_dflt (refine rows_get (by exact Nat.le_of_ble_eq_true rfl) (by k_asm) (by assumption) (by walk_at "mine sub") (by k_mem) (by assumption) (by k_mem) (by walk_at "mine tk") ?_; k_whole); intro v' hv')
  k_with "getMethod ref" => (k_here; (with_reducible show wpAny _ _ (getMethod (Value.ref _) _ _) _ _ _); k_dflt (refine rows_meth (by first | exact PySem.F.slot_dict_get | exact PySem.F.slot_dict_pop) (by rfl) (by k_asm) (by assumption) (by walk_at "mine sub") (by k_mem) (by assumption) ?_; k_whole))
  k_with "subscriptTail" => (k_here; (with_reducible show wpAny _ _ (subscriptTail _ _ (Value.ref _) (Value.ref _)) _ _ _); k_dflt (refine rows_itemS (by exact Nat.le_of_ble_eq_true rfl) (by k_asm) (by assumption) (by walk_at "mine sub") (by k_mem) (by assumption) (by k_mem) (by walk_at "mine tk") (by assumption) ?_ (by with_unfolding_all rfl) (by (intro _; with_unfolding_all rfl)); k_whole); intro v' d' hl' hv')
  k_with "call builtin:len" => (k_here; (with_reducible show wpAny _ _ (call (Value.builtin "len") [Value.ref _]) _ _ _); k_dflt (refine lenL (by k_asm) (by k_mem) (by omega) ?_; k_whole); intro t' tk')
  k_with "call builtin:dict.pop" => (k_here; (with_reducible show wpAny _ _ (call (Value.builtin _) [Value.ref _, Value.int _ _]) _ _ _); k_dflt (refine popI (by k_asm) (by k_asm) (by k_updF) (by assumption) (by assumption) (by assumption) (by omega) ?_; k_whole); intro h' o' v' kvs' D' F' N' hd' hf' hn' hl'; (try dsimp only at N'))
  k_with "setItem ref int" => (k_here; k_dflt (refine setItem_K PyProof.V.same_int (intKind_is _ _ _ _) (by k_flat) (by k_asm) (by k_asm) (by k_updF) (by assumption) (by assumption) ?_ (by (rw [sizeLine_eq]; omega)); ); intro h' o' F' N' hd' hf'; (try dsimp only at N'))
  k_with "call builtin:list.pop" => (k_here; k_dflt (refine pop0 (by k_asm) (by k_asm) (by k_upd) (by (have hq := IntsAre.length (by assumption); rw [sizeLine_eq]; simp only [List.length_cons] at *; omega)) ?_; k_whole); intro h' F' N'; (try dsimp only [List.nil_append, List.cons_append] at N'))
  k_with "call builtin:list.append" => (k_here; (with_reducible show wpAny _ _ (call (Value.builtin _) [Value.ref _, _]) _ _ _); k_dflt (refine appF (by k_asm) (by k_asm) (by first | omega | (simp only [List.length_append, List.length_cons, List.length_nil]; omega)) (by k_upd) ?_; k_whole); intro h' F' N'; (try dsimp only [List.nil_append, List.cons_append] at N'))
  k_with "getItem ref int" => (k_here; k_dflt (refine getItem_some PyProof.V.same_int (intKind_is _ _ _ _) (by k_tabat) (by assumption) ?_; k_whole); intro v' d' hl' hv')
  k_with "mine stat" => (rename Rep _ _ _ _ => RR; refine Rep.use RR ?_; intro hS1 hS2 hS3 oS4 hS4 kS4 hS4' hS4'' hS5 hS6 oS7 hS7 kS7 hS7' hS7'' hS8 hS9 esS10 nS10 hS10 hS10' hS11 hS12 hS13 esS14 nS14 hS14 hS14' hS15 hS16 hS17 hS18 hS19 hS20 hS21 hS22 hS23 hS24 hS25 hS26 gS1 gS2 gS3 gS4 gS5 gS6)
  k_with "mine statS" => (rename Stat _ _ _ => SS; refine Stat.use SS ?_; intro hS1 hS2 hS3 oS4 hS4 kS4 hS4' hS4'' hS5 hS6 oS7 hS7 kS7 hS7' hS7'' hS8 hS9 esS10 nS10 hS10 hS10' hS11 hS12 hS13 esS14 nS14 hS14 hS14' hS15 hS16 hS17 hS18 hS19 hS20 hS21 hS22 hS23 hS24 hS25 hS26 gS1 gS2 gS3 gS4 gS5 gS6)
  k_with "mine dyn" => (rename Rep _ _ _ _ => RR; refine Rep.dyn RR ?_; intro jS1 odS jS2 kdS jS2' jS2'' o0S jS3 k0S jS3' jS3'' o1S jS4 k1S jS4' jS4'')
  k_with "mine fr" => (intro z q1 q2; (try dsimp only); first | (rw [if_neg q1, q2]; rfl) | (have q3 := q2; simp only [List.contains_cons, List.contains_nil, Bool.or_false, Bool.or_eq_false_iff, beq_eq_false_iff_ne, ne_eq] at q3; simp only [q1, q2, q3, if_false, List.contains_nil, Bool.false_eq_true]))
  k_with "mine frw" => (intro z q2; (try dsimp only); have q3 := q2; simp only [List.contains_cons, List.contains_nil, Bool.or_false, Bool.or_eq_false_iff, beq_eq_false_iff_ne, ne_eq] at q3; simp only [q2, q3, if_false, List.contains_nil, Bool.false_eq_true])
  k_with "k_handed" => exact flat_handed (by assumption)
  k_with "k_get" => assumption
  k_with "execs cons" => (k_here; first | k_gentoks | (refine execsG ?_; intro Q' hn hr))
  k_with "k_mem" => (change (_ : Addr × Obj) ∈ (_ : List (Addr × Obj)); ktr_member)
  trivial
-- 62_depthm
example : True := by
  k_with "mine now" =>
    revert X; k_fill; intro X
    refine wpAny_call ?_
    k_dflt ktr_enter
    refine wpAny_noRaise ?_
    repeat' (walk_at "mine step")
    exact h _ _ _ (by assumption) (by assumption)
  trivial
theorem depth_m {w : World} {p : Program} {loose : List Str} {cn : Str} {cs : Scope} {a : Addr} {ccd : Value} {cl : List (Str × Addr)} {base h₀ : Heap} {L : Addr} {m : Str → Option Value} {s : Shared} {Q E : Value → Shared → Prop} {e : Addr}
    {mean : ExcName → Option Value} {mg mb : Str → Option Value} {ex : List (Addr × Obj)}
    (B : Below callerA base [] h₀) (F : Fr h₀ L s.heap m) (X : (Kf w.params).In h₀) (T : Top p loose mean mg mb h₀) (hk : cs.kind = .function)
    {sk sd sr : Addr} {t1 t2 : Tok} {vw : Value} {c : Nat} (msk : (sk, instObj 435 sd) ∈ ex) (msd : (sd, dictOf [en w "world" t1 vw, en w "rows" t2 (.ref sr)] 2) ∈ ex) (msr : (sr, W.listOf #[] c) ∈ ex) (N : News h₀ L s.heap ex)
    (h : ∀ t h' tk', Fr h₀ L h' m → News h₀ L h' ex → Q (.int 0 t) { s with heap := h', toks := tk' }) :
    wpAny (model PySem.Challenge.rw_np0094_01.row.prog w) ({ handled := some (.ref e), depth := 302, frames := some [envX cn cs L a ccd cl], guards := some [], units := 7 } : Around) (call (.ref 411) [.ref sk]) Q E s := by
  refine GoalP.out ?_
  simp (disch := k_dflt (walk_at "mine now")) only [↓goalP_of]

theorem cmp_same {w : World} {AA : Around} {E : Value → Shared → Prop} {s : Shared} {h₀ : Heap} {L a b : Addr} {news : List (Addr × Obj)} {v : Value} {n n' : Nat} {Q : Value → Shared → Prop}
    (N : News h₀ L s.heap news) (ma : (a, W.listOf #[v] n) ∈ news) (mb : (b, W.listOf #[v] n') ∈ news) (hu : AA.units < cLine) (h : Q (.bool false) s) :
    wpAny (model PP w) AA (compareOp .NotEq (.ref a) (.ref b)) Q E s :=
  SeqAt.RcNeAt.lists (e := fun _ => true) ⟨_, (N _ ma).1, rfl, _, rfl⟩ ⟨_, (N _ mb).1, rfl, _, rfl⟩ rfl hu (fun j h1 h2 => by
    have h1 : j < 1 := h1
    obtain rfl : j = 0 := by omega
    exact SeqAt.EqAt.same v) PP w E Q (by simpa using h)
theorem inst_e {h₀ h : Heap} {L e D C : Addr} {news : List (Addr × Obj)} {oe od : Obj} {vs : Array Value} (N : News h₀ L h news) (m1 : (e, oe) ∈ news) (m2 : (D, od) ∈ news) (hc : oe.cls = .ref C) (hD : oe.dict = some D) (hd : oe.data = .fields vs) :
    InstAt h e oe C (some od) := ⟨(N _ m1).1, hc, by unfold notCls; rw [hd], by rw [hD]; exact (N _ m2).1⟩
theorem getE_own {prog : Program} {w : World} {AA : Around} {E : Value → Shared → Prop} {s : Shared} {K : Frag} {x C : Addr} {ox : Obj} {es : List DictEntry} {n : Nat} {name : Str} {v : Value} {expr : Bool} {attr : Option Value} {Q : Value → Shared → Prop}
    (X : K.In s.heap) (I : InstAt s.heap x ox C (some (dictOf es n))) (hga : findIn K (.ref C) "__getattribute__" = some (some (.builtin "BaseException.__getattribute__")))
    (hgx : findIn K (.ref C) "__getattr__" = some none) (hsub : mroIn K C (.type "BaseException") = some true) (hh : hasDictIn K C = true) (ha : findIn K (.ref C) name = some attr) (hn : noGet K attr = true)
    (hl : getL name es = some (some v)) (hv : handedIn v = true) (h : Q v { s with toks := s.toks + 1 }) : wpAny (model prog w) AA (getAttr (.ref x) name expr) Q E s :=
  getE X I hga hgx hsub (findObj_own hh ha hn hl) hv h
theorem goesX {M : Model} {AA : Around} {E : Value → Shared → Prop} {s : Shared} {cn : Str} {cs : Scope} {L a : Addr} {ccd : Value} {cl : List (Str × Addr)} {h₀ : Heap} {m : Str → Option Value} {news : List (Addr × Obj)} {n : Str} {pos : Pos} {Q : Unit → Shared → Prop}
    (F : Fr h₀ L s.heap m) (N : News h₀ L s.heap news) (h : ∀ h' v, Fr h₀ L h' (fun x => if x = n then v else m x) → News h₀ L h' news → Q () { s with heap := h', toks := s.toks + 1 })
    (hk : cs.kind = .function := by rfl) (hl : (envX cn cs L a ccd cl).kindOf n = some .local := by rfl) :
    wpAny M AA (do bindName (envX cn cs L a ccd cl) n .none; unbindBehindTheSuite (envX cn cs L a ccd cl) n pos) Q E s :=
  wpAny_nameGoes_keeps hl F.ns (by show (cs.kind == .class || (cs.kind == .module && L != mainGlobals)) = false; rw [hk]; rfl) fun h' v hn hs => h h' v (F.set hn hs) (N.set hs)

-- 70_world
example : True := by
  k_with "mine now" =>
    obtain ⟨ck, cnm, cg, cc⟩ := cs
    dsimp only at hk
    subst hk
    revert X; k_fill; intro X
    repeat' (walk_at "mine step")
    exact h _ _ _ _ _ _ _ _ _ _ _ _ _ _ _ _ _ _ _ _ _ _ _ _ _ _ _ _ _ _ _ _ _ _ _ _ _ _ _ _ _ _ _ _ _ (by assumption) (by assumption) ⟨_, by assumption, .nil⟩ ⟨_, by assumption, .nil⟩ ⟨_, by assumption, .nil⟩ (by assumption) (by assumption) (by assumption) (by assumption) (by assumption)
      (by assumption) (by assumption) (And.left (by assumption)) (by assumption) (And.left (by assumption)) (And.left (by assumption)) (And.left (by assumption)) (by assumption) (And.left (by assumption)) (And.left (by assumption)) (And.left (by assumption)) (by assumption) (And.left (by assumption)) (And.left (by assumption)) (And.left (by assumption)) (And.left (by assumption)) (by assumption) (And.left (by assumption))

  trivial
theorem world_c {w : World} {p : Program} {loose : List Str} {cn : Str} {cs : Scope} {a : Addr} {ccd : Value} {cl : List (Str × Addr)} {base h₀ : Heap} {L : Addr} {m : Str → Option Value} {s : Shared} {Q E : Value → Shared → Prop} 
    {mean : ExcName → Option Value} {mg mb : Str → Option Value} {ex : List (Addr × Obj)}
    (B : Below callerA base [] h₀) (F : Fr h₀ L s.heap m) (X : (Kf w.params).In h₀) (T : Top p loose mean mg mb h₀) (hk : cs.kind = .function)
    (N : News h₀ L s.heap ex)
    (h : ∀ (wo wd ob obd orw onm cc ccx fn pl va vd dd au pe ba bd bv : Addr) (o1 o2 o3 o4 o5 o6 o7 : Obj) (t1 t2 t3 t4 t5 t6 t7 t8 t9 u1 u2 u3 u4 u5 u6 u7 u8 u9 : Tok) h' tk',
      Fr h₀ L h' m → News h₀ L h' ((bv, o1) :: (ba, instObj 337 bd) :: (bd, dictOf [en w "values" t1 (.ref bv)] 1) :: (pe, o2) :: (au, o3) :: (dd, o4) :: (va, instObj 281 vd) :: (vd, dictOf [en w "defaults" t2 (.ref dd), en w "automatic" t3 (.ref au), en w "permanent" t4 (.ref pe)] 3) ::
        (pl, o5) :: (fn, o6) :: (cc, instObj 218 ccx) :: (ccx, dictOf [en w "functions" t5 (.ref fn), en w "plists" t6 (.ref pl)] 2) :: (onm, o7) :: (orw, W.listOf #[.ref 64, .ref 67] 0) :: (ob, instObj 777 obd) :: (obd, dictOf [en w "rows" t7 (.ref orw), en w "names" t8 (.ref onm)] 2) ::
        (wo, instObj 826 wd) :: (wd, dictOf [en w "obarray" t9 (.ref ob), en w "cells" u1 (.ref cc), en w "variables" u2 (.ref va), en w "bare" u3 (.ref ba), en w "current" u4 .none, en w "machine" u5 .none, en w "last_marker" u6 (.int 0 u7)] 7) :: ex) →
      IT w o1 [] → IT w o3 [] → IT w o4 [] → Obj.IsDictOf (PySem.strKind PP w) o7 (strPairs [(.str (Str.ofString "nil") u8, .ref 64), (.str (Str.ofString "t") u9, .ref 67)]) →
      (bv == sysModules) = false → (au == sysModules) = false → (dd == sysModules) = false → (onm == sysModules) = false →
      (∀ p ∈ ex, p.1 < wd) → @LT.lt Nat _ wd wo → @LT.lt Nat _ wo obd → @LT.lt Nat _ obd ob → @LT.lt Nat _ ob orw → @LT.lt Nat _ orw onm → @LT.lt Nat _ onm ccx → @LT.lt Nat _ ccx cc → @LT.lt Nat _ cc fn → @LT.lt Nat _ fn pl → @LT.lt Nat _ pl vd → @LT.lt Nat _ vd va → @LT.lt Nat _ va dd → @LT.lt Nat _ dd au → @LT.lt Nat _ au pe → @LT.lt Nat _ pe bd → @LT.lt Nat _ bd ba → @LT.lt Nat _ ba bv →
      Q (.ref wo) { s with heap := h', toks := tk' }) :
    wpAny (model PySem.Challenge.rw_np0094_01.row.prog w) (callerA.deeper (envX cn cs L a ccd cl)) (call (.ref 826) []) Q E s := by
  refine GoalP.out ?_
  simp (disch := k_dflt (walk_at "mine now")) only [↓goalP_of]

-- 71_buffer
example : True := by
  k_with "mine now" =>
    obtain ⟨ck, cnm, cg, cc⟩ := cs
    dsimp only at hk
    subst hk
    revert X; k_fill; intro X
    repeat' ((fail_if_success (with_reducible show wpAny _ _ (execs (Stmt.Assign _ _ ⟨262, _, _, _⟩ :: _) _) _ _ _)); (fail_if_success (with_reducible show wpAny _ _ (execs (Stmt.Expr _ ⟨262, _, _, _⟩ :: _) _) _ _ _)); (fail_if_success (with_reducible show wpAny _ _ (execs (Stmt.If _ _ _ ⟨262, _, _, _⟩ :: _) _) _ _ _)); (fail_if_success (with_reducible show wpAny _ _ (execs (Stmt.For _ _ _ _ ⟨262, _, _, _⟩ :: _) _) _ _ _)); walk_at "mine step")
    rename News _ _ _ _ => NF
    have NG := News.cons1 (NF _ (.tail _ (.tail _ (.tail _ (.tail _ (.tail _ (.tail _ (.tail _ (.tail _ (.tail _ (.tail _ (.head _)))))))))))) (News.cons1 (NF _ (.tail _ (.tail _ (.tail _ (.tail _ (.tail _ (.tail _ (.tail _ (.tail _ (.tail _ (.tail _ (.tail _ (.head _))))))))))))) (fun q hq => NF q (.tail _ (.tail _ (.tail _ (.tail _ (.tail _ (.tail _ (.tail _ (.tail _ (.tail _ (.tail _ (.tail _ (.tail _ hq))))))))))))))
    clear NF
    repeat' (walk_at "mine step")
    refine h _ _ _ _ _ _ _ _ _ _ _ _ _ _ _ _ _ _ _ _ _ _ _ _ _ _ _ _ _ _ _ _ _ (by assumption) (by assumption) (by assumption) (by assumption) ?_
    omega

  trivial
theorem buffer_c {w : World} {p : Program} {loose : List Str} {cn : Str} {cs : Scope} {a : Addr} {ccd : Value} {cl : List (Str × Addr)} {base h₀ : Heap} {L : Addr} {m : Str → Option Value} {s : Shared} {Q E : Value → Shared → Prop} 
    {mean : ExcName → Option Value} {mg mb : Str → Option Value} {ex : List (Addr × Obj)}
    (B : Below callerA base [] h₀) (F : Fr h₀ L s.heap m) (X : (Kf w.params).In h₀) (T : Top p loose mean mg mb h₀) (hk : cs.kind = .function)
    {k : Int} {nm : Str} {t t' : Tok} (N : News h₀ L s.heap ex)
    (h : ∀ (b e tx mk ls : Addr) (a0 a1 a2 a3 a4 b4 a5 b5 a6 b6 a7 a8 a9 a10 b10 a11 b11 a12 b12 a13 a14 a15 a16 a17 a18 a19 : Tok) h' tk', Fr h₀ L h' m → News h₀ L h' ((ls, W.listOf #[] 0) :: (b, instObj 702 e) :: (e, dictOf (bufE w k nm t t' a0 a1 a2 a3 a4 b4 a5 b5 a6 b6 a7 a8 a9 a10 b10 a11 b11 a12 b12 a13 a14 a15 a16 a17 a18 a19 tx mk ls .none) 20) :: ex) →
      (∀ p ∈ ex, p.1 < e) → @LT.lt Nat _ e b → @LT.lt Nat _ b ls → Q (.ref b) { s with heap := h', toks := tk' }) :
    wpAny (model PySem.Challenge.rw_np0094_01.row.prog w) (callerA.deeper (envX cn cs L a ccd cl)) (call (.ref 702) [.int k t, .str nm t']) Q E s := by
  refine GoalP.out ?_
  simp (disch := k_dflt (walk_at "mine now")) only [↓goalP_of]

-- 72_small
example : True := by
  k_with "mine now" =>
    obtain ⟨ck, cnm, cg, cc⟩ := cs
    dsimp only at hk
    subst hk
    revert X; k_fill; intro X
    repeat' (walk_at "mine step")
    exact h _ _ _ _ _ _ _ (by assumption) (by assumption) ⟨_, by assumption, .nil⟩ (by assumption) (by assumption) (by assumption) (And.left (by assumption))
  trivial
theorem locals_c {w : World} {p : Program} {loose : List Str} {cn : Str} {cs : Scope} {a : Addr} {ccd : Value} {cl : List (Str × Addr)} {base h₀ : Heap} {L : Addr} {m : Str → Option Value} {s : Shared} {Q E : Value → Shared → Prop} 
    {mean : ExcName → Option Value} {mg mb : Str → Option Value} {ex : List (Addr × Obj)}
    (B : Below callerA base [] h₀) (F : Fr h₀ L s.heap m) (X : (Kf w.params).In h₀) (T : Top p loose mean mg mb h₀) (hk : cs.kind = .function)
    (N : News h₀ L s.heap ex)
    (h : ∀ (l f v : Addr) (o : Obj) t1 h' tk', Fr h₀ L h' m → News h₀ L h' ((v, o) :: (l, instObj 337 f) :: (f, dictOf [en w "values" t1 (.ref v)] 1) :: ex) → IT w o [] → (v == sysModules) = false → (∀ p ∈ ex, p.1 < f) → @LT.lt Nat _ f l → @LT.lt Nat _ l v → Q (.ref l) { s with heap := h', toks := tk' }) :
    wpAny (model PySem.Challenge.rw_np0094_01.row.prog w) (callerA.deeper (envX cn cs L a ccd cl)) (call (.ref 337) []) Q E s := by
  refine GoalP.out ?_
  simp (disch := k_dflt (walk_at "mine now")) only [↓goalP_of]

example : True := by
  k_with "mine now" =>
    obtain ⟨ck, cnm, cg, cc⟩ := cs
    dsimp only at hk
    subst hk
    revert X; k_fill; intro X
    repeat' (walk_at "mine step")
    exact h _ _ _ _ _ _ _ (by assumption) (by assumption) (by assumption) (by assumption) (And.left (by assumption))

  trivial
theorem stack_c {w : World} {p : Program} {loose : List Str} {cn : Str} {cs : Scope} {a : Addr} {ccd : Value} {cl : List (Str × Addr)} {base h₀ : Heap} {L : Addr} {m : Str → Option Value} {s : Shared} {Q E : Value → Shared → Prop} 
    {mean : ExcName → Option Value} {mg mb : Str → Option Value} {ex : List (Addr × Obj)}
    (B : Below callerA base [] h₀) (F : Fr h₀ L s.heap m) (X : (Kf w.params).In h₀) (T : Top p loose mean mg mb h₀) (hk : cs.kind = .function)
    {wo : Addr} (N : News h₀ L s.heap ex)
    (h : ∀ (sk sd sr : Addr) t1 t2 h' tk', Fr h₀ L h' m → News h₀ L h' ((sr, W.listOf #[] 0) :: (sk, instObj 435 sd) :: (sd, dictOf [en w "world" t1 (.ref wo), en w "rows" t2 (.ref sr)] 2) :: ex) → (∀ p ∈ ex, p.1 < sd) → @LT.lt Nat _ sd sk → @LT.lt Nat _ sk sr → Q (.ref sk) { s with heap := h', toks := tk' }) :
    wpAny (model PySem.Challenge.rw_np0094_01.row.prog w) (callerA.deeper (envX cn cs L a ccd cl)) (call (.ref 435) [.ref wo]) Q E s := by
  refine GoalP.out ?_
  simp (disch := k_dflt (walk_at "mine now")) only [↓goalP_of]

-- 73_symbol
section
example : True := by
  k_with "call builtin:dict.get" => (k_here; k_dflt (refine gets2 (by k_asm) (by k_mem) (by assumption) (by assumption) (by assumption) ?_; k_whole))
  trivial
example : True := by
  k_with "getMethod ref" => (k_here; (with_reducible show wpAny _ _ (getMethod (Value.ref _) _ _) _ _ _); k_dflt (refine kob_method (knd := PySem.strKind _ _) (by exact PySem.F.slot_dict_get) (by rfl) (by k_asm) (by k_mem) (by assumption) ?_; k_whole))
  trivial
example : True := by
  k_with "setItem ref str" => (k_here; k_dflt (refine kda_set (knd := PySem.strKind _ _) (by k_asm) (by k_asm) (by k_updF) (by assumption) (strKind_is _ _ _ _) (by (rw [sizeLine_eq]; omega)) ?_; k_whole); intro h' o' F' N' hd'; (try dsimp only at N'))
  trivial
example : True := by
  k_with "mine now" =>
    have hno := nokey_none hno'
    revert X; k_fill; intro X
    refine wpAny_call ?_
    k_dflt ktr_enter
    refine wpAny_noRaise ?_
    repeat' (walk_at "mine step")
    rename News _ _ _ _ => NF
    simp only [List.push_toArray, hlen] at NF
    exact h _ _ _ _ _ _ _ _ _ _ (by assumption) NF (by assumption) (stored_length_le ..) (fun j hj hk => nokey_stored hk hj) (by assumption) (by assumption)
  trivial
theorem symbol_c {w : World} {p : Program} {loose : List Str} {cn : Str} {cs : Scope} {a : Addr} {ccd : Value} {cl : List (Str × Addr)} {base h₀ : Heap} {L : Addr} {m : Str → Option Value} {s : Shared} {Q E : Value → Shared → Prop} 
    {mean : ExcName → Option Value} {mg mb : Str → Option Value} {ex : List (Addr × Obj)}
    (B : Below callerA base [] h₀) (F : Fr h₀ L s.heap m) (X : (Kf w.params).In h₀) (T : Top p loose mean mg mb h₀) (hk : cs.kind = .function)
    {wo wd ob obd orw onm : Addr} {o7 : Obj} {kvs : List (Str × Value)} {vs : List Value} {c : Nat} {t1 t2 t3 t4 t5 t6 t7 t8 t9 t : Tok} {v2 v3 v4 v5 v6 v7 : Value} {nm : Str} {k : Int} (hlen : (vs.length : Int) = k)
    (N : News h₀ L s.heap ((onm, o7) :: (orw, W.listOf vs.toArray c) :: ex)) (ne : @Ne Nat onm orw) (hx1 : ∀ p ∈ ex, p.1 ≠ onm) (hx2 : ∀ p ∈ ex, p.1 ≠ orw)
    (m1 : (wo, instObj 826 wd) ∈ ex) (m2 : (wd, dictOf [en w "obarray" t1 (.ref ob), en w "cells" t2 v2, en w "variables" t3 v3, en w "bare" t4 v4, en w "current" t5 v5, en w "machine" t6 v6, en w "last_marker" t7 v7] 7) ∈ ex)
    (m3 : (ob, instObj 777 obd) ∈ ex) (m4 : (obd, dictOf [en w "rows" t8 (.ref orw), en w "names" t9 (.ref onm)] 2) ∈ ex) (hd : o7.IsDictOf (PySem.strKind PP w) kvs) (lo : (onm == sysModules) = false) (hno' : nokey kvs nm) (hz : vs.length ≤ 50) (hz2 : kvs.length ≤ 50)
    (h : ∀ (sy z : Addr) (o' : Obj) kvs' u1 u2 u3 tn h' tk', Fr h₀ L h' m → News h₀ L h' ((sy, instObj 58 z) :: (z, dictOf [en w "number" u1 (.int k u2), en w "name" u3 (.str nm tn)] 2) :: (onm, o') :: (orw, W.listOf (vs ++ [Value.ref sy]).toArray (c + 1)) :: ex) →
      o'.IsDictOf (PySem.strKind PP w) kvs' → kvs'.length ≤ kvs.length + 1 → (∀ j, nm ≠ j → nokey kvs j → nokey kvs' j) → AllLt z ((onm, o7) :: (orw, W.listOf vs.toArray c) :: ex) → @LT.lt Nat _ z sy → Q (.ref sy) { s with heap := h', toks := tk' }) :
    wpAny (model PySem.Challenge.rw_np0094_01.row.prog w) (Ar 302 7 cn cs L a ccd cl []) (call (.ref 802) [.ref wo, .str nm t]) Q E s := by
  refine GoalP.out ?_
  simp (disch := k_dflt (walk_at "mine now")) only [↓goalP_of]

end

example : True := by
  k_with_none
  k_with "mine c" => with_reducible first | assumption | exact And.left (by assumption) | exact And.left (And.right (by assumption)) | exact And.left (And.right (And.right (by assumption))) | exact And.left (And.right (And.right (And.right (by assumption)))) | exact And.left (And.right (And.right (And.right (And.right (by assumption))))) | exact And.left (And.right (And.right (And.right (And.right (And.right (by assumption)))))) | exact And.left (And.right (And.right (And.right (And.right (And.right (And.right (by assumption))))))) | exact And.left (And.right (And.right (And.right (And.right (And.right (And.right (And.right (by assumption)))))))) | exact And.left (And.right (And.right (And.right (And.right (And.right (And.right (And.right (And.right (by assumption))))))))) | exact And.left (And.right (And.right (And.right (And.right (And.right (And.right (And.right (And.right (And.right (by assumption)))))))))) | exact And.left (And.right (And.right (And.right (And.right (And.right (And.right (And.right (And.right (And.right (And.right (by assumption))))))))))) | exact And.left (And.right (And.right (And.right (And.right (And.right (And.right (And.right (And.right (And.right (And.right (And.right (by assumption)))))))))))) | exact And.left (And.right (And.right (And.right (And.right (And.right (And.right (And.right (And.right (And.right (And.right (And.right (And.right (by assumption))))))))))))) | exact And.left (And.right (And.right (And.right (And.right (And.right (And.right (And.right (And.right (And.right (And.right (And.right (And.right (And.right (by assumption)))))))))))))) | exact And.right (by assumption) | exact And.right (And.right (by assumption)) | exact And.right (And.right (And.right (by assumption))) | exact And.right (And.right (And.right (And.right (by assumption)))) | exact And.right (And.right (And.right (And.right (And.right (by assumption))))) | exact And.right (And.right (And.right (And.right (And.right (And.right (by assumption)))))) | exact And.right (And.right (And.right (And.right (And.right (And.right (And.right (by assumption)))))))
  k_with "k_all" => first | assumption | exact fun p hp => Nat.ne_of_lt (tb_ltOf (by assumption) p hp) | exact fun p hp => Nat.ne_of_gt (tb_ltOf (by assumption) p hp) | ((repeat (rename _ ∧ _ => q; cases q)); exact fun p hp => Nat.ne_of_lt (tb_ltOf (by assumption) p hp)) | ((repeat (rename _ ∧ _ => q; cases q)); exact fun p hp => Nat.ne_of_gt (tb_ltOf (by assumption) p hp))
  k_with "mine sub" => (intro p hp; (repeat first | exact hp | refine List.Mem.tail _ ?_))
  k_with "mine opt" => first | assumption | exact isOpt_none | exact isOpt_int _ _
  k_with "mine tk" => first | assumption | exact Mine.tk2 (by walk_at "mine opt") (by walk_at "mine opt")
  k_with "compareOp In ref ref" => (k_here; k_dflt (refine rows_in (by exact Nat.le_of_ble_eq_true rfl) (by k_asm) (by assumption) (by walk_at "mine sub") (by k_mem) (by assumption) (by k_mem) (by walk_at "mine tk") ?_; k_whole))
  k_with "compareOp NotIn ref ref" => (k_here; k_dflt (refine rows_notin (by exact Nat.le_of_ble_eq_true rfl) (by k_asm) (by assumption) (by walk_at "mine sub") (by k_mem) (by assumption) (by k_mem) (by walk_at "mine tk") ?_; k_whole))
  k_with "call builtin:dict.get" => (k_here; k_dflt (refine rows_get (by exact Nat.le_of_ble_eq_true rfl) (by k_asm) (by assumption) (by walk_at "mine sub") (by k_mem) (by assumption) (by k_mem) (by walk_at "mine tk") ?_; k_whole); intro v' hv')
  k_with "getMethod ref" => (k_here; (with_reducible show wpAny _ _ (getMethod (Value.ref _) _ _) _ _ _); k_dflt (refine rows_meth (by first | exact PySem.F.slot_dict_get | exact PySem.F.slot_dict_pop) (by rfl) (by k_asm) (by assumption) (by walk_at "mine sub") (by k_mem) (by assumption) ?_; k_whole))
  k_with "subscriptTail" => (k_here; (with_reducible show wpAny _ _ (subscriptTail _ _ (Value.ref _) (Value.ref _)) _ _ _); k_dflt (refine rows_itemS (by exact Nat.le_of_ble_eq_true rfl) (by k_asm) (by assumption) (by walk_at "mine sub") (by k_mem) (by assumption) (by k_mem) (by walk_at "mine tk") (by assumption) ?_ (by with_unfolding_all rfl) (by (intro _; with_unfolding_all rfl)); k_whole); intro v' d' hl' hv')
  k_with "call builtin:len" => (k_here; (with_reducible show wpAny _ _ (call (Value.builtin "len") [Value.ref _]) _ _ _); k_dflt (refine lenL (by k_asm) (by k_mem) (by omega) ?_; k_whole); intro t' tk')
  k_with "call builtin:dict.pop" => (k_here; (with_reducible show wpAny _ _ (call (Value.builtin _) [Value.ref _, Value.int _ _]) _ _ _); k_dflt (refine popI (by k_asm) (by k_asm) (by k_updF) (by assumption) (by assumption) (by assumption) (by omega) ?_; k_whole); intro h' o' v' kvs' D' F' N' hd' hf' hn' hl'; (try dsimp only at N'))
  k_with "setItem ref int" => (k_here; k_dflt (refine setItem_K PyProof.V.same_int (intKind_is _ _ _ _) (by k_flat) (by k_asm) (by k_asm) (by k_updF) (by assumption) (by assumption) ?_ (by (rw [sizeLine_eq]; omega)); ); intro h' o' F' N' hd' hf'; (try dsimp only at N'))
  k_with "call builtin:list.pop" => (k_here; k_dflt (refine pop0 (by k_asm) (by k_asm) (by k_upd) (by (have hq := IntsAre.length (by assumption); rw [sizeLine_eq]; simp only [List.length_cons] at *; omega)) ?_; k_whole); intro h' F' N'; (try dsimp only [List.nil_append, List.cons_append] at N'))
  k_with "call builtin:list.append" => (k_here; (with_reducible show wpAny _ _ (call (Value.builtin _) [Value.ref _, _]) _ _ _); k_dflt (refine appF (by k_asm) (by k_asm) (by first | omega | (simp only [List.length_append, List.length_cons, List.length_nil]; omega)) (by k_upd) ?_; k_whole); intro h' F' N'; (try dsimp only [List.nil_append, List.cons_append] at N'))
  k_with "getItem ref int" => (k_here; k_dflt (refine getItem_some PyProof.V.same_int (intKind_is _ _ _ _) (by k_tabat) (by assumption) ?_; k_whole); intro v' d' hl' hv')
  k_with "mine stat" => (rename Rep _ _ _ _ => RR; refine Rep.use RR ?_; intro hS1 hS2 hS3 oS4 hS4 kS4 hS4' hS4'' hS5 hS6 oS7 hS7 kS7 hS7' hS7'' hS8 hS9 esS10 nS10 hS10 hS10' hS11 hS12 hS13 esS14 nS14 hS14 hS14' hS15 hS16 hS17 hS18 hS19 hS20 hS21 hS22 hS23 hS24 hS25 hS26 gS1 gS2 gS3 gS4 gS5 gS6)
  k_with "mine statS" => (rename Stat _ _ _ => SS; refine Stat.use SS ?_; intro hS1 hS2 hS3 oS4 hS4 kS4 hS4' hS4'' hS5 hS6 oS7 hS7 kS7 hS7' hS7'' hS8 hS9 esS10 nS10 hS10 hS10' hS11 hS12 hS13 esS14 nS14 hS14 hS14' hS15 hS16 hS17 hS18 hS19 hS20 hS21 hS22 hS23 hS24 hS25 hS26 gS1 gS2 gS3 gS4 gS5 gS6)
  k_with "mine dyn" => (rename Rep _ _ _ _ => RR; refine Rep.dyn RR ?_; intro jS1 odS jS2 kdS jS2' jS2'' o0S jS3 k0S jS3' jS3'' o1S jS4 k1S jS4' jS4'')
  k_with "mine fr" => (intro z q1 q2; (try dsimp only); first | (rw [if_neg q1, q2]; rfl) | (have q3 := q2; simp only [List.contains_cons, List.contains_nil, Bool.or_false, Bool.or_eq_false_iff, beq_eq_false_iff_ne, ne_eq] at q3; simp only [q1, q2, q3, if_false, List.contains_nil, Bool.false_eq_true]))
  k_with "mine frw" => (intro z q2; (try dsimp only); have q3 := q2; simp only [List.contains_cons, List.contains_nil, Bool.or_false, Bool.or_eq_false_iff, beq_eq_false_iff_ne, ne_eq] at q3; simp only [q2, q3, if_false, List.contains_nil, Bool.false_eq_true])
  k_with "k_handed" => exact flat_handed (by assumption)
  k_with "k_get" => assumption
  k_with "execs cons" => (k_here; first | k_gentoks | (refine execsG ?_; intro Q' hn hr))
  k_with "k_mem" => (change (_ : Addr × Obj) ∈ (_ : List (Addr × Obj)); ktr_member)
  trivial
-- 90_law
/-- the text without the rows that name a file -/
noncomputable def bodyX (m : Module) (l : List Stmt) : Module := { m with body := l }
noncomputable def mainX (p : Program) (m : Module) : Program := { p with main := m }
noncomputable def view : Program := mainX PySem.Challenge.pw_np0094_01 (bodyX PySem.Challenge.pw_np0094_01.main ([0, 2, 4, 5, 6, 7, 8, 10, 11, 12, 13, 15, 16, 17, 18, 19, 20, 21, 22, 23, 24, 25, 27, 29, 31, 33, 35, 37, 39, 40, 41, 42, 43, 44, 45].filterMap stmtA))
theorem kfAs : ∀ P, kfL = (Kf P).map (·.1) := fun _ => by kernel_rfl
theorem of_def {P : DefRec → List (Str × Expr) → Prop} {o : Option (DefRec × List (Str × Expr))} {D : DefRec} {K : List (Str × Expr)} (h : o = some (D, K)) (p : P D K) {d : DefRec} {k : List (Str × Expr)} (e : o = some (d, k)) : P d k := by
  have e' := h.symm.trans e
  cases e'
  exact p
theorem warm.tw13173631372972213194 : True := trivial
theorem warm.tw14483651329830533851 : True := trivial
set_option Elab.async true in
theorem warm : (view.main.body.isEmpty || true) = true := by
  first | k_qdec | exact Bool.or_true _
#print axioms warm
noncomputable def g_lawW : G1 (∀ (d : DefRec) (kwd : List (Str × Expr)), defOf view "law" = some (d, kwd) →
    WalkO view ["NIL", "T", "bind_variables", "Buffer"] (XL view []) (kHook Kf kfL kfAs).says PySem.Challenge.rw_np0094_01.row.toRowW d kwd fun f vs => PySem.call f vs ) := by
  apply G1.mk
  case impz =>
    intro hp1 d kwd hdef
    refine of_def (o := defOf view "law") (P := fun d k => WalkO view ["NIL", "T", "bind_variables", "Buffer"] (XL view []) (kHook Kf kfL kfAs).says PySem.Challenge.rw_np0094_01.row.toRowW d k fun f vs => PySem.call f vs) rfl ?_ hdef
    clear hdef
    k_go0
    all_goals try k_fold
    all_goals repeat' ((fail_if_success (with_reducible show wpAny _ _ (execs (Stmt.Assign _ _ ⟨412, _, _, _⟩ :: _) _) _ _ _)); walk_at "mine step")
    (rename_i w qA qA_1 mg mb G Y fa o pm doc ho hg KX X V GL T B TE TW w_1 w_2 M w_3 w_4 hcd w_5 hs hlay0 hL hr_1 hl2 w_6 w_7 w_8 w_9 w_10 hL_1 ra w1 r0 hI hr_2 hcond' hcond'_1 K0 hD qA_2 qA_3 F w_11 right N0 X0 qk_1 ek_1 Q'_1 hn_1 hr_3 g' L' h' B' X' T' lifted_1 lifted_2 lifted_3 Q'_2 hn_2 hr_4 D' ws' h'_1 hI' hC' hL' hAllLt l1 hkl hkl_1 g'_1 hI8 hL8 D'_1 h'_2 tk' o1' h'_3 tk'_1 t' l' h'_4 hAllLt_1 l1_1 l'_1 h'_5 F' N' hAllLt_2 l1_2 Gc' kX h'_6 F'_1 N'_1; revert d kwd w qA qA_1 mg mb fa o pm doc w_1 w_2 w_3 w_4 w_5 hlay0 hr_1 hl2 w_6 w_7 w_8 w_9 w_10 hcond'_1 qA_2 qA_3 w_11 Q'_1 g' L' h' tk Q'_2 D' ws' h'_1 g'_1 ys D'_1 h'_2 tk' Q' h'_3 tk'_1 t' l' h'_4 l'_1 h'_5 h'_6; (repeat revert ‹_›); intro hp1; exact hp1.out)

-- 91_world
noncomputable def g_stA : G1 g_lawW.Pz1 := by
  apply G1.mk
  case impz =>
    intro hp1
    unfold g_lawW
    dsimp only
    k_fill
    set_option tactic.hygienic false in intros
    rename News _ _ _ _ => NN
    obtain ⟨dk, e⟩ : ∃ x, x = nA0 NN := ⟨_, rfl⟩
    simp only [nA0] at e; subst e
    obtain ⟨se, e⟩ : ∃ x, x = nA1 NN := ⟨_, rfl⟩
    simp only [nA1] at e; subst e
    obtain ⟨ce, e⟩ : ∃ x, x = nA2 NN := ⟨_, rfl⟩
    simp only [nA2] at e; subst e
    obtain ⟨ws0, e⟩ : ∃ x, x = nA3 NN := ⟨_, rfl⟩
    simp only [nA3] at e; subst e
    have c_se : @LT.lt Nat _ ce se := by walk_at "mine c"
    have c_dk : @LT.lt Nat _ se dk := by walk_at "mine c"
    have c_cl := (show @LT.lt Nat _ (_ + 1) se by walk_at "mine c")
    have c_cl2 := (show @Ne Nat (_ + 1) ce by walk_at "mine c")
    repeat' ((fail_if_success (with_reducible show wpAny _ _ (call (Value.ref _) _ _) _ _ _)); walk_at "mine step")
    k_here
    refine' world_c ?B ?F ?X ?T ?k ?N ?_
    case F => k_asm
    case B => exact below_caller _
    case X => k_asm
    case T => k_asm
    case k => rfl
    case N => k_asm
    k_whole
    intro wo wd ob obd orw onm cc ccx fn pl va vd dd au pe ba bd bv o1 o2 o3 o4 o5 o6 o7 t1 t2 t3 t4 t5 t6 t7 t8 t9 u1 u2 u3 u4 u5 u6 u7 u8 u9 h' tk' F' N' d1 d2 d3 d4 s1 s2 s3 s4 l1 q1 q2 q3 q4 q5 q6 q7 q8 q9 q10 q11 q12 q13 q14 q15 q16 q17; (try k_lt l1)
    have c_wd : @LT.lt Nat _ dk wd := by walk_at "mine c"
    have k_wd := (show @LT.lt Nat _ (_ + 1) wd by walk_at "mine c")
    have k_wo := Nat.lt_trans k_wd q1
    have k_obd := Nat.lt_trans k_wo q2
    have k_ob := Nat.lt_trans k_obd q3
    have k_orw := Nat.lt_trans k_ob q4
    have k_onm := Nat.lt_trans k_orw q5
    have k_ccx := Nat.lt_trans k_onm q6
    have k_cc := Nat.lt_trans k_ccx q7
    have k_fn := Nat.lt_trans k_cc q8
    have k_pl := Nat.lt_trans k_fn q9
    have k_vd := Nat.lt_trans k_pl q10
    have k_va := Nat.lt_trans k_vd q11
    have k_dd := Nat.lt_trans k_va q12
    have k_au := Nat.lt_trans k_dd q13
    have k_pe := Nat.lt_trans k_au q14
    have k_bd := Nat.lt_trans k_pe q15
    have k_ba := Nat.lt_trans k_bd q16
    have k_bv := Nat.lt_trans k_ba q17
    repeat' ((fail_if_success (with_reducible show wpAny _ _ (execs (Stmt.Assign _ _ ⟨413, _, _, _⟩ :: _) _) _ _ _)); (fail_if_success (with_reducible show wpAny _ _ (execs (Stmt.Expr _ ⟨413, _, _, _⟩ :: _) _) _ _ _)); (fail_if_success (with_reducible show wpAny _ _ (execs (Stmt.If _ _ _ ⟨413, _, _, _⟩ :: _) _) _ _ _)); (fail_if_success (with_reducible show wpAny _ _ (execs (Stmt.For _ _ _ _ ⟨413, _, _, _⟩ :: _) _) _ _ _)); walk_at "mine step")
    repeat' ((fail_if_success (with_reducible show wpAny _ _ (call (Value.ref _) _ _) _ _ _)); walk_at "mine step")
    k_here
    refine' buffer_c ?B0 ?F0 ?X0 ?T0 ?k0 ?N0 ?_
    case F0 => k_asm
    case B0 => exact below_caller _
    case X0 => k_asm
    case T0 => k_asm
    case k0 => rfl
    case N0 => k_asm
    k_whole
    intro b0 e0 tx0 mk0 ls0 a0_0 a1_0 a2_0 a3_0 a4_0 b4_0 a5_0 b5_0 a6_0 b6_0 a7_0 a8_0 a9_0 a10_0 b10_0 a11_0 b11_0 a12_0 b12_0 a13_0 a14_0 a15_0 a16_0 a17_0 a18_0 a19_0 h' tk' F' N' l1 r01 r02; (try k_lt l1)
    have c_e0 : @LT.lt Nat _ bv e0 := by walk_at "mine c"
    repeat' ((fail_if_success (with_reducible show wpAny _ _ (call (Value.ref _) _ _) _ _ _)); walk_at "mine step")
    k_here
    refine' buffer_c ?B1 ?F1 ?X1 ?T1 ?k1 ?N1 ?_
    case F1 => k_asm
    case B1 => exact below_caller _
    case X1 => k_asm
    case T1 => k_asm
    case k1 => rfl
    case N1 => k_asm
    k_whole
    intro b1 e1 tx1 mk1 ls1 a0_1 a1_1 a2_1 a3_1 a4_1 b4_1 a5_1 b5_1 a6_1 b6_1 a7_1 a8_1 a9_1 a10_1 b10_1 a11_1 b11_1 a12_1 b12_1 a13_1 a14_1 a15_1 a16_1 a17_1 a18_1 a19_1 h' tk' F' N' l1 r11 r12; (try k_lt l1)
    have c_e1 : @LT.lt Nat _ ls0 e1 := by walk_at "mine c"
    have z_ls0 := Nat.lt_trans r01 r02
    have z_b1 := Nat.lt_trans (show @LT.lt Nat _ e0 e1 by walk_at "mine c") r11
    have z_ls1 := Nat.lt_trans z_b1 r12
    have y_ls1 := Nat.lt_trans r11 r12
    repeat' ((fail_if_success (with_reducible show wpAny _ _ (newList _) _ _ _)); walk_at "mine step")
    k_here
    k_dflt (refine' newList_K ?kn1 ?kn2 ?_; (case kn1 => k_asm); (case kn2 => k_asm); k_whole)
    intro bl h' F' N' l1; (try k_lt l1)
    have c_bl : @LT.lt Nat _ ls1 bl := by walk_at "mine c"
    repeat' ((fail_if_success (with_reducible show wpAny _ _ (execs (Stmt.Assign _ _ ⟨414, _, _, _⟩ :: _) _) _ _ _)); (fail_if_success (with_reducible show wpAny _ _ (execs (Stmt.Expr _ ⟨414, _, _, _⟩ :: _) _) _ _ _)); (fail_if_success (with_reducible show wpAny _ _ (execs (Stmt.If _ _ _ ⟨414, _, _, _⟩ :: _) _) _ _ _)); (fail_if_success (with_reducible show wpAny _ _ (execs (Stmt.For _ _ _ _ ⟨414, _, _, _⟩ :: _) _) _ _ _)); walk_at "mine step")
    (rename_i h'_7 tk'_2 Q'_3 hn_3 hr_5 l1_3 Q'_4 hn_4 hr_6 h'_8 tk'_3 hAllLt_3 l1_4 h'_9 o' d' h'_10 tk'_4 hAllLt_4 l1_5 h'_11 hAllLt_5 l1_6 hAllLt_6 h'_12 F'_1 N'_1; revert d kwd w qA qA_1 mg mb fa o pm doc w_1 w_2 w_3 w_4 w_5 hlay0 hr_1 hl2 w_6 w_7 w_8 w_9 w_10 hcond'_1 qA_2 qA_3 w_11 Q'_1 g' L' h'_7 tk Q'_2 ws' h'_1 g'_1 ys h'_2 tk'_2 Q'_3 h'_3 tk'_1 t' h'_4 h'_5 h'_6 dk se ce ws0 Q'_4 wo wd ob obd orw onm cc ccx fn pl va vd dd au pe ba bd bv o1 o2 o3 o4 o5 o6 o7 t1 t2 t3 t4 t5 t6 t7 t8 t9 u1 u2 u3 u4 u5 u6 u7 u8 u9 h'_8 tk'_3 h'_9 o' Q' b0 e0 tx0 mk0 ls0 a0_0 a1_0 a2_0 a3_0 a4_0 b4_0 a5_0 b5_0 a6_0 b6_0 a7_0 a8_0 a9_0 a10_0 b10_0 a11_0 b11_0 a12_0 b12_0 a13_0 a14_0 a15_0 a16_0 a17_0 a18_0 a19_0 h'_10 tk'_4 b1 e1 tx1 mk1 ls1 a0_1 a1_1 a2_1 a3_1 a4_1 b4_1 a5_1 b5_1 a6_1 b6_1 a7_1 a8_1 a9_1 a10_1 b10_1 a11_1 b11_1 a12_1 b12_1 a13_1 a14_1 a15_1 a16_1 a17_1 a18_1 a19_1 h'_11 tk' bl h' h'_12; (repeat revert ‹_›); intro hp1; exact hp1.out)

-- 92_loc
theorem UnrEnd.cut3 {h₀ : Heap} {L I : Addr} {it : Obj} {rest : (Str → Option Value) → List (Addr × Obj) → Prop} {s₁ : Shared} {h' : Heap} {tk : Nat} {m' : Str → Option Value} {p1 p2 p3 : Addr × Obj} {post : List (Addr × Obj)} (F : Fr h₀ L h' m') (N : News h₀ L h' (p1 :: p2 :: p3 :: (I, it) :: post))
    (o1 : @Ne Nat p1.1 I) (o2 : @Ne Nat p2.1 I) (o3 : @Ne Nat p3.1 I) (off : ∀ p ∈ post, p.1 ≠ I) (r : rest m' (p1 :: p2 :: p3 :: post)) : UnrEnd h₀ L s₁ I it rest { s₁ with heap := h', toks := tk } :=
  UnrEnd.intro F N (p1 :: p2 :: p3 :: post) (fun p hp => by
    rcases List.mem_cons.mp hp with rfl | hp
    · exact .tail _ (.tail _ (.tail _ (.head _)))
    · rcases List.mem_cons.mp hp with rfl | hp
      · exact .head _
      · rcases List.mem_cons.mp hp with rfl | hp
        · exact .tail _ (.head _)
        · rcases List.mem_cons.mp hp with rfl | hp
          · exact .tail _ (.tail _ (.head _))
          · exact .tail _ (.tail _ (.tail _ (.tail _ hp)))) (fun p hp e => by
    rcases List.mem_cons.mp hp with rfl | hp
    · exact o1 e
    · rcases List.mem_cons.mp hp with rfl | hp
      · exact o2 e
      · rcases List.mem_cons.mp hp with rfl | hp
        · exact o3 e
        · exact off p hp e) r
theorem off_lt {d : Addr} {l : List (Addr × Obj)} (h : AllLt d l) : ∀ p ∈ l, p.1 ≠ d := fun p hp => Nat.ne_of_lt (tb_ltOf h p hp)
noncomputable def g_stB : G1 g_stA.Pz1 := by
  apply G1.mk
  case impz =>
    intro hp1
    unfold g_stA
    dsimp only
    k_fill
    set_option tactic.hygienic false in intros
    repeat' ((fail_if_success (with_reducible show wpAny _ _ (call (Value.ref _) _ _) _ _ _)); walk_at "mine step")
    k_here
    refine' locals_c ?B0 ?F0 ?X0 ?T0 ?k0 ?N0 ?_
    case F0 => k_asm
    case B0 => exact below_caller _
    case X0 => k_asm
    case T0 => k_asm
    case k0 => rfl
    case N0 => k_asm
    k_whole
    intro lo0 f0 v0 ov0 tl0 h' tk' F' N' d09 s09 l1 r03 r04; (try k_lt l1)
    have c_f0 : @LT.lt Nat _ bl f0 := by walk_at "mine c"
    have z_lo0 := Nat.lt_trans (show @LT.lt Nat _ e0 f0 by walk_at "mine c") r03
    have z_v0 := Nat.lt_trans z_lo0 r04
    have y_lo0 := Nat.lt_trans (show @LT.lt Nat _ e1 f0 by walk_at "mine c") r03
    have y_v0 := Nat.lt_trans y_lo0 r04
    repeat' ((fail_if_success (with_reducible show UnrEnd _ _ _ _ _ _ _)); walk_at "mine step")
    rename Fr _ _ _ _ => FU
    rename News _ _ _ _ => NU
    refine UnrEnd.cut3 FU NU ?oo1 ?oo2 ?oo3 (off_lt (by assumption)) ⟨by k_mem, ?_⟩
    case oo1 => exact Nat.ne_of_gt (Nat.lt_trans (Nat.lt_trans (by walk_at "mine c") r03) r04)
    case oo2 => exact Nat.ne_of_gt (Nat.lt_trans (by walk_at "mine c") r03)
    case oo3 => exact Nat.ne_of_gt (by walk_at "mine c")
    clear NU FU
    repeat' ((fail_if_success (with_reducible show wpAny _ _ (call (Value.ref _) _ _) _ _ _)); walk_at "mine step")
    k_here
    refine' locals_c ?B1 ?F1 ?X1 ?T1 ?k1 ?N1 ?_
    case F1 => k_asm
    case B1 => exact below_caller _
    case X1 => k_asm
    case T1 => k_asm
    case k1 => rfl
    case N1 => k_asm
    k_whole
    intro lo1 f1 v1 ov1 tl1 h' tk' F' N' d19 s19 l1 r13 r14; (try k_lt l1)
    have c_f1 : @LT.lt Nat _ v0 f1 := by walk_at "mine c"
    have y_lo1 := Nat.lt_trans (show @LT.lt Nat _ e1 f1 by walk_at "mine c") r13
    have y_v1 := Nat.lt_trans y_lo1 r14
    repeat' ((fail_if_success (with_reducible show UnrEnd _ _ _ _ _ _ _)); (fail_if_success (with_reducible show wpAny _ _ (execs (Stmt.Assign _ _ ⟨416, _, _, _⟩ :: _) _) _ _ _)); (fail_if_success (with_reducible show wpAny _ _ (execs (Stmt.Expr _ ⟨416, _, _, _⟩ :: _) _) _ _ _)); (fail_if_success (with_reducible show wpAny _ _ (execs (Stmt.If _ _ _ ⟨416, _, _, _⟩ :: _) _) _ _ _)); (fail_if_success (with_reducible show wpAny _ _ (execs (Stmt.For _ _ _ _ ⟨416, _, _, _⟩ :: _) _) _ _ _)); walk_at "mine step")
    rename Fr _ _ _ _ => FU
    rename News _ _ _ _ => NU
    refine UnrEnd.cut3 FU NU ?pp1 ?pp2 ?pp3 (List.forall_mem_cons.mpr ⟨Nat.ne_of_gt (Nat.lt_trans (Nat.lt_trans (by walk_at "mine c") r03) r04), List.forall_mem_cons.mpr ⟨Nat.ne_of_gt (Nat.lt_trans (by walk_at "mine c") r03), List.forall_mem_cons.mpr ⟨Nat.ne_of_gt (by walk_at "mine c"), off_lt (by assumption)⟩⟩⟩) ⟨by k_mem, ?_⟩
    case pp1 => exact Nat.ne_of_gt (Nat.lt_trans (Nat.lt_trans (by walk_at "mine c") r13) r14)
    case pp2 => exact Nat.ne_of_gt (Nat.lt_trans (by walk_at "mine c") r13)
    case pp3 => exact Nat.ne_of_gt (by walk_at "mine c")
    clear NU FU
    repeat' ((fail_if_success (with_reducible show wpAny _ _ (execs (Stmt.Assign _ _ ⟨416, _, _, _⟩ :: _) _) _ _ _)); (fail_if_success (with_reducible show wpAny _ _ (execs (Stmt.Expr _ ⟨416, _, _, _⟩ :: _) _) _ _ _)); (fail_if_success (with_reducible show wpAny _ _ (execs (Stmt.If _ _ _ ⟨416, _, _, _⟩ :: _) _) _ _ _)); (fail_if_success (with_reducible show wpAny _ _ (execs (Stmt.For _ _ _ _ ⟨416, _, _, _⟩ :: _) _) _ _ _)); walk_at "mine step")
    clear z_ls0 z_b1 z_ls1 y_ls1 z_lo0 z_v0 y_lo0 y_v0 y_lo1 y_v1
    (repeat (rename (_ ∧ _) => q; clear q))
    (repeat (rename AllLt _ _ => q; clear q))
    clear k_wd k_wo k_obd k_ob k_orw k_onm k_ccx k_cc k_fn k_pl k_vd k_va k_dd k_au k_pe k_bd k_ba k_bv
    rename News _ _ _ _ => NN
    rename Fr _ _ _ _ => FF
    revert NN FF
    (repeat (rename News _ _ _ _ => q; clear q))
    (repeat (rename Fr _ _ _ _ => q; clear q))
    intro NN FF
    (rename_i tk_1 iL Q'_5 hn_5 hr_7 tk'_5 h'_13 tk_2 Q'_6 hn_6 hr_8 i' it' h'_14 tk'_6 hit' Q'_7 hn_7 hr_9 h'_15 tk'_7 h'_16 tk_3 it'_1 h'_17 tk'_8 hit'_1 h'_18 h'_19 tk'_9; revert d kwd w qA qA_1 mg mb fa o pm doc w_1 w_2 w_3 w_4 w_5 hlay0 hr_1 hl2 w_6 w_7 w_8 w_9 w_10 hcond'_1 qA_2 qA_3 w_11 Q'_1 g' L' h'_7 tk_1 Q'_2 ws' h'_1 g'_1 ys h'_2 tk'_2 Q'_3 h'_3 tk'_1 t' h'_4 h'_5 h'_6 dk se ce ws0 Q'_4 wo wd ob obd orw onm cc ccx fn pl va vd dd au pe ba bd bv o1 o2 o3 o4 o5 o6 o7 t1 t2 t3 t4 t5 t6 t7 t8 t9 u1 u2 u3 u4 u5 u6 u7 u8 u9 h'_8 tk'_3 h'_9 o' Q'_5 b0 e0 tx0 mk0 ls0 a0_0 a1_0 a2_0 a3_0 a4_0 b4_0 a5_0 b5_0 a6_0 b6_0 a7_0 a8_0 a9_0 a10_0 b10_0 a11_0 b11_0 a12_0 b12_0 a13_0 a14_0 a15_0 a16_0 a17_0 a18_0 a19_0 h'_10 tk'_4 b1 e1 tx1 mk1 ls1 a0_1 a1_1 a2_1 a3_1 a4_1 b4_1 a5_1 b5_1 a6_1 b6_1 a7_1 a8_1 a9_1 a10_1 b10_1 a11_1 b11_1 a12_1 b12_1 a13_1 a14_1 a15_1 a16_1 a17_1 a18_1 a19_1 h'_11 tk'_5 bl h'_13 h'_12 tk_2 Q'_6 i' it' h'_14 tk'_6 Q'_7 lo0 f0 v0 ov0 tl0 h'_15 tk'_7 h'_16 tk_3 it'_1 h'_17 tk'_8 Q' lo1 f1 v1 ov1 tl1 h' tk' h'_18 tk h'_19 tk'_9; (repeat revert ‹_›); intro hp1; exact hp1.out)

-- 93_sym
theorem split_mem {P : Prop} {h₀ h : Heap} {L : Addr} {nl : List (Addr × Obj)} {onm orw : Addr} {o7 o8 : Obj} (m1 : (onm, o7) ∈ nl) (m2 : (orw, o8) ∈ nl) (N : News h₀ L h nl) (lt : @LT.lt Nat _ orw onm)
    (k : ∀ nx, (∀ a o, (a, o) ∈ nl → (@LT.lt Nat _ a orw ∨ @LT.lt Nat _ onm a) → (a, o) ∈ nx) → (∀ p ∈ nx, p.1 ≠ onm) → (∀ p ∈ nx, p.1 ≠ orw) → News h₀ L h ((onm, o7) :: (orw, o8) :: nx) → P) : P :=
  k (butL [onm, orw] nl) (fun a o h1 h2 => mem_butL.mpr ⟨h1, fun q => by
    rcases List.mem_cons.mp q with q | q
    · have q' : @Eq Nat a onm := q
      omega
    · have q' : @Eq Nat a orw := List.mem_singleton.mp q
      omega⟩) (butL_ne (fp := [onm, orw]) (nx := nl) (a := onm) (.head _)) (butL_ne (fp := [onm, orw]) (nx := nl) (a := orw) (.tail _ (.head _)))
    (News.cons1 (N _ m1) (News.cons1 (N _ m2) (butL_news (nx := nl) (fp := [onm, orw]) N)))
theorem use26 {P p1 p2 p3 p4 p5 p6 p7 p8 p9 p10 p11 p12 p13 p14 p15 p16 p17 p18 p19 p20 p21 p22 p23 p24 p25 p26 : Prop} (h1 : p1) (h2 : p2) (h3 : p3) (h4 : p4) (h5 : p5) (h6 : p6) (h7 : p7) (h8 : p8) (h9 : p9) (h10 : p10) (h11 : p11) (h12 : p12) (h13 : p13) (h14 : p14) (h15 : p15) (h16 : p16) (h17 : p17) (h18 : p18) (h19 : p19) (h20 : p20) (h21 : p21) (h22 : p22) (h23 : p23) (h24 : p24) (h25 : p25) (h26 : p26) (k : p1 → p2 → p3 → p4 → p5 → p6 → p7 → p8 → p9 → p10 → p11 → p12 → p13 → p14 → p15 → p16 → p17 → p18 → p19 → p20 → p21 → p22 → p23 → p24 → p25 → p26 → P) : P := k h1 h2 h3 h4 h5 h6 h7 h8 h9 h10 h11 h12 h13 h14 h15 h16 h17 h18 h19 h20 h21 h22 h23 h24 h25 h26
noncomputable def g_stC : G1 g_stB.Pz1 := by
  apply G1.mk
  case impz =>
    intro hp1
    unfold g_stB
    dsimp only
    k_fill
    set_option tactic.hygienic false in intros
    rename News _ _ _ _ => NN
    rename Fr _ _ _ _ => FF
    have c_wo : @LT.lt Nat _ wd wo := q1
    have c_obd : @LT.lt Nat _ wo obd := q2
    have c_ob : @LT.lt Nat _ obd ob := q3
    have c_orw : @LT.lt Nat _ ob orw := q4
    have c_onm : @LT.lt Nat _ orw onm := q5
    have c_ccx : @LT.lt Nat _ onm ccx := q6
    have c_cc : @LT.lt Nat _ ccx cc := q7
    have c_fn : @LT.lt Nat _ cc fn := q8
    have c_pl : @LT.lt Nat _ fn pl := q9
    have c_vd : @LT.lt Nat _ pl vd := q10
    have c_va : @LT.lt Nat _ vd va := q11
    have c_dd : @LT.lt Nat _ va dd := q12
    have c_au : @LT.lt Nat _ dd au := q13
    have c_pe : @LT.lt Nat _ au pe := q14
    have c_bd : @LT.lt Nat _ pe bd := q15
    have c_ba : @LT.lt Nat _ bd ba := q16
    have c_bv : @LT.lt Nat _ ba bv := q17
    have c_b0 : @LT.lt Nat _ e0 b0 := r01
    have c_ls0 : @LT.lt Nat _ b0 ls0 := r02
    have c_b1 : @LT.lt Nat _ e1 b1 := r11
    have c_ls1 : @LT.lt Nat _ b1 ls1 := r12
    have c_lo0 : @LT.lt Nat _ f0 lo0 := r03
    have c_v0 : @LT.lt Nat _ lo0 v0 := r04
    have c_lo1 : @LT.lt Nat _ f1 lo1 := r13
    have c_v1 : @LT.lt Nat _ lo1 v1 := r14
    have b_ob : @LT.lt Nat _ ob orw := c_orw
    have b_obd : @LT.lt Nat _ obd orw := Nat.lt_trans c_ob b_ob
    have b_wo : @LT.lt Nat _ wo orw := Nat.lt_trans c_obd b_obd
    have b_wd : @LT.lt Nat _ wd orw := Nat.lt_trans c_wo b_wo
    have b_dk : @LT.lt Nat _ dk orw := Nat.lt_trans c_wd b_wd
    have b_se : @LT.lt Nat _ se orw := Nat.lt_trans c_dk b_dk
    have b_ce : @LT.lt Nat _ ce orw := Nat.lt_trans c_se b_se
    have b_cl : @LT.lt Nat _ (_ + 1) orw := Nat.lt_trans c_cl b_se
    have a_ccx : @LT.lt Nat _ onm ccx := c_ccx
    have a_cc : @LT.lt Nat _ onm cc := Nat.lt_trans a_ccx c_cc
    have a_fn : @LT.lt Nat _ onm fn := Nat.lt_trans a_cc c_fn
    have a_pl : @LT.lt Nat _ onm pl := Nat.lt_trans a_fn c_pl
    have a_vd : @LT.lt Nat _ onm vd := Nat.lt_trans a_pl c_vd
    have a_va : @LT.lt Nat _ onm va := Nat.lt_trans a_vd c_va
    have a_dd : @LT.lt Nat _ onm dd := Nat.lt_trans a_va c_dd
    have a_au : @LT.lt Nat _ onm au := Nat.lt_trans a_dd c_au
    have a_pe : @LT.lt Nat _ onm pe := Nat.lt_trans a_au c_pe
    have a_bd : @LT.lt Nat _ onm bd := Nat.lt_trans a_pe c_bd
    have a_ba : @LT.lt Nat _ onm ba := Nat.lt_trans a_bd c_ba
    have a_bv : @LT.lt Nat _ onm bv := Nat.lt_trans a_ba c_bv
    have a_e0 : @LT.lt Nat _ onm e0 := Nat.lt_trans a_bv c_e0
    have a_b0 : @LT.lt Nat _ onm b0 := Nat.lt_trans a_e0 c_b0
    have a_ls0 : @LT.lt Nat _ onm ls0 := Nat.lt_trans a_b0 c_ls0
    have a_e1 : @LT.lt Nat _ onm e1 := Nat.lt_trans a_ls0 c_e1
    have a_b1 : @LT.lt Nat _ onm b1 := Nat.lt_trans a_e1 c_b1
    have a_ls1 : @LT.lt Nat _ onm ls1 := Nat.lt_trans a_b1 c_ls1
    have a_bl : @LT.lt Nat _ onm bl := Nat.lt_trans a_ls1 c_bl
    have a_f0 : @LT.lt Nat _ onm f0 := Nat.lt_trans a_bl c_f0
    have a_lo0 : @LT.lt Nat _ onm lo0 := Nat.lt_trans a_f0 c_lo0
    have a_v0 : @LT.lt Nat _ onm v0 := Nat.lt_trans a_lo0 c_v0
    have a_f1 : @LT.lt Nat _ onm f1 := Nat.lt_trans a_v0 c_f1
    have a_lo1 : @LT.lt Nat _ onm lo1 := Nat.lt_trans a_f1 c_lo1
    have a_v1 : @LT.lt Nat _ onm v1 := Nat.lt_trans a_lo1 c_v1
    clear q1 q2 q3 q4 q5 q6 q7 q8 q9 q10 q11 q12 q13 q14 q15 q16 q17 r01 r02 r11 r12 r03 r04 r13 r14
    refine split_mem (o7 := o7) (onm := onm) (orw := orw) (o8 := W.listOf #[Value.ref 64, Value.ref 67] 0) (by k_mem) (by k_mem) NN c_onm ?_
    clear NN
    intro nx mv hx1 hx2 N1
    refine use26 (mv wo _ (by k_mem) (.inl b_wo)) (mv wd _ (by k_mem) (.inl b_wd)) (mv ob _ (by k_mem) (.inl b_ob)) (mv obd _ (by k_mem) (.inl b_obd)) (mv (_ + 1) _ (by k_mem) (.inl b_cl)) (mv va _ (by k_mem) (.inr a_va)) (mv vd _ (by k_mem) (.inr a_vd)) (mv dd _ (by k_mem) (.inr a_dd)) (mv au _ (by k_mem) (.inr a_au)) (mv ba _ (by k_mem) (.inr a_ba)) (mv bd _ (by k_mem) (.inr a_bd)) (mv bv _ (by k_mem) (.inr a_bv)) (mv b0 _ (by k_mem) (.inr a_b0)) (mv e0 _ (by k_mem) (.inr a_e0)) (mv b1 _ (by k_mem) (.inr a_b1)) (mv e1 _ (by k_mem) (.inr a_e1)) (mv bl _ (by k_mem) (.inr a_bl)) (mv lo0 _ (by k_mem) (.inr a_lo0)) (mv f0 _ (by k_mem) (.inr a_f0)) (mv v0 _ (by k_mem) (.inr a_v0)) (mv lo1 _ (by k_mem) (.inr a_lo1)) (mv f1 _ (by k_mem) (.inr a_f1)) (mv v1 _ (by k_mem) (.inr a_v1)) (mv dk _ (by k_mem) (.inl b_dk)) (mv ce _ (by k_mem) (.inl b_ce)) (mv se _ (by k_mem) (.inl b_se)) ?_
    clear mv
    intro mwo mwd mob mobd mcell m_va m_vd m_dd m_au m_ba m_bd m_bv m_b0 m_e0 m_b1 m_e1 m_bl m_lo0 m_f0 m_v0 m_lo1 m_f1 m_v1 m_dk m_ce m_se
    clear a_ccx a_cc a_fn a_pl a_va a_au a_pe a_bd a_ba a_bv a_e0 a_b0 a_ls0 a_e1 a_b1 a_ls1 a_bl a_f0 a_lo0 a_f1 a_lo1 b_ob b_obd b_wo b_wd b_dk b_se b_ce
    walk1
    k_here
    k_dflt (refine asg_tup (F₀ := by k_asm) (by rfl) (by with_unfolding_all rfl) (by with_unfolding_all rfl) (by decide) (by rfl) (by decide) (by rfl) (by rfl) (by rfl) ?_)
    repeat' ((fail_if_success (with_reducible show TupSrc _ _ _ _ _ _ _ _ _ _ _ _ _ _)); walk_at "mine step")
    refine TupSrc.intro (by rfl) (by k_asm) (by k_asm) (by k_mem) (by size_fits) ?_
    intro g'
    lcg_lit
    repeat' ((fail_if_success (with_reducible show wpAny _ _ (call (Value.ref _) _ _) _ _ _)); walk_at "mine step")
    rename News _ _ _ _ => N2
    rename (_ ∧ _) => ne'
    clear ne'
    rename (_ ∧ _) => off'
    revert off'
    rename (_ ∧ _) => lT
    have lT0 : AllLt _ ((onm, o7) :: (orw, W.listOf #[Value.ref 64, Value.ref 67] 0) :: nx) := lT
    intro off'
    have of0 := o3_3 o7 off'
    clear off'
    have eT1 := Ne.symm (Nat.ne_of_lt (tb_ltOf lT0 _ (.head _)))
    have eT2 := Ne.symm (Nat.ne_of_lt (tb_ltOf lT0 _ (.tail _ (.head _))))
    k_here
    refine' symbol_c (k := 2) (vs := [Value.ref 64, Value.ref 67]) (below_caller _) (by k_asm) (by k_asm) (by k_asm) rfl (by rfl) (News.cons1 (N2 _ (.tail _ (.tail _ (.tail _ (.tail _ (.head _)))))) (News.cons1 (N2 _ (.tail _ (.tail _ (.tail _ (.tail _ (.tail _ (.head _))))))) (News.cons1 (N2 _ (.head _)) (News.cons1 (N2 _ (.tail _ (.head _))) (News.cons1 (N2 _ (.tail _ (.tail _ (.head _)))) (News.cons1 (N2 _ (.tail _ (.tail _ (.tail _ (.head _))))) (fun q hq => N2 q (.tail _ (.tail _ (.tail _ (.tail _ (.tail _ (.tail _ hq))))))))))))) (by omega) (ne_turn of0 (.tail _ (.head _)) (List.forall_mem_cons.mpr ⟨eT1, hx1⟩)) (ne_turn of0 (.tail _ (.tail _ (.head _))) (List.forall_mem_cons.mpr ⟨eT2, hx2⟩)) (by k_mem) (by k_mem) (by k_mem) (by k_mem) d4 s4 (show nokey [(Str.ofString "nil", Value.ref 64), (Str.ofString "t", Value.ref 67)] (Str.ofString "a") from List.forall_mem_cons.mpr ⟨by decide, List.forall_mem_cons.mpr ⟨by decide, List.forall_mem_nil _⟩⟩) (Nat.le_of_ble_eq_true rfl) (Nat.le_of_ble_eq_true rfl) ?_
    intro sy0 z0 oo0 kv0 x10 x20 x30 x40 h' tk' F' N' hd0 kl0 nk0 lt0 q60
    replace kl0 : kv0.length ≤ 3 := kl0
    repeat' ((fail_if_success (with_reducible show LCg.CompEnd _ _ _ _ _ _ _ _ _ _ _ _ _ _)); walk_at "mine step")
    rename News _ _ _ _ => N3
    have c_z0 : @LT.lt Nat _ v1 z0 := tb_ltOf lt0 _ (.tail _ (.tail _ (.tail _ (.tail _ (.tail _ (.tail _ m_v1))))))
    refine compEnd3 (by assumption) (News.cons1 (N3 _ (.tail _ (.tail _ (.tail _ (.tail _ (.head _)))))) (News.cons1 (N3 _ (.tail _ (.tail _ (.tail _ (.tail _ (.tail _ (.head _))))))) (News.cons1 (N3 _ (.tail _ (.tail _ (.tail _ (.tail _ (.tail _ (.tail _ (.head _)))))))) (News.cons1 (N3 _ (.head _)) (News.cons1 (N3 _ (.tail _ (.head _))) (News.cons1 (N3 _ (.tail _ (.tail _ (.tail _ (.tail _ (.tail _ (.tail _ (.tail _ (.head _))))))))) (News.cons1 (N3 _ (.tail _ (.tail _ (.head _)))) (News.cons1 (N3 _ (.tail _ (.tail _ (.tail _ (.head _))))) (fun q hq => N3 q (.tail _ (.tail _ (.tail _ (.tail _ (.tail _ (.tail _ (.tail _ (.tail _ hq))))))))))))))))) (off2 of0 rfl lt0 q60) (.inr ⟨_, by k_mem, rfl, _, rfl⟩) ?_
    repeat' ((fail_if_success (with_reducible show wpAny _ _ (call (Value.ref _) _ _) _ _ _)); walk_at "mine step")
    rename News _ _ _ _ => N2
    rename (_ ∧ _) => ne'
    clear ne'
    rename (_ ∧ _) => off'
    have of1 := o3_5 o7 off'
    clear off'
    k_here
    refine' symbol_c (k := 3) (vs := ([Value.ref 64, Value.ref 67] ++ [Value.ref sy0])) (below_caller _) (by k_asm) (by k_asm) (by k_asm) rfl (by rfl) (News.cons1 (N2 _ (.tail _ (.tail _ (.tail _ (.tail _ (.tail _ (.tail _ (.head _)))))))) (News.cons1 (N2 _ (.tail _ (.tail _ (.tail _ (.tail _ (.tail _ (.tail _ (.tail _ (.head _))))))))) (News.cons1 (N2 _ (.head _)) (News.cons1 (N2 _ (.tail _ (.head _))) (News.cons1 (N2 _ (.tail _ (.tail _ (.head _)))) (News.cons1 (N2 _ (.tail _ (.tail _ (.tail _ (.head _))))) (News.cons1 (N2 _ (.tail _ (.tail _ (.tail _ (.tail _ (.head _)))))) (News.cons1 (N2 _ (.tail _ (.tail _ (.tail _ (.tail _ (.tail _ (.head _))))))) (fun q hq => N2 q (.tail _ (.tail _ (.tail _ (.tail _ (.tail _ (.tail _ (.tail _ (.tail _ hq))))))))))))))))) (by omega) (ne_turn of1 (.tail _ (.tail _ (.tail _ (.head _)))) (ne_turn2 lt0 (.head _) q60 (List.forall_mem_cons.mpr ⟨eT1, hx1⟩))) (ne_turn of1 (.tail _ (.tail _ (.tail _ (.tail _ (.head _))))) (ne_turn2 lt0 (.tail _ (.head _)) q60 (List.forall_mem_cons.mpr ⟨eT2, hx2⟩))) (by k_mem) (by k_mem) (by k_mem) (by k_mem) hd0 s4 (nk0 _ (by decide) (show nokey [(Str.ofString "nil", Value.ref 64), (Str.ofString "t", Value.ref 67)] (Str.ofString "b") from List.forall_mem_cons.mpr ⟨by decide, List.forall_mem_cons.mpr ⟨by decide, List.forall_mem_nil _⟩⟩)) (Nat.le_of_ble_eq_true rfl) (by omega) ?_
    intro sy1 z1 oo1 kv1 x11 x21 x31 x41 h' tk' F' N' hd1 kl1 nk1 lt1 q61
    repeat' ((fail_if_success (with_reducible show LCg.CompEnd _ _ _ _ _ _ _ _ _ _ _ _ _ _)); walk_at "mine step")
    rename News _ _ _ _ => N3
    have c_z1 : @LT.lt Nat _ sy0 z1 := tb_ltOf lt1 _ (.tail _ (.tail _ (.tail _ (.tail _ (.tail _ (.head _))))))
    refine compEnd3 (by assumption) (News.cons1 (N3 _ (.tail _ (.tail _ (.tail _ (.tail _ (.head _)))))) (News.cons1 (N3 _ (.tail _ (.tail _ (.tail _ (.tail _ (.tail _ (.head _))))))) (News.cons1 (N3 _ (.tail _ (.tail _ (.tail _ (.tail _ (.tail _ (.tail _ (.head _)))))))) (News.cons1 (N3 _ (.head _)) (News.cons1 (N3 _ (.tail _ (.head _))) (News.cons1 (N3 _ (.tail _ (.tail _ (.tail _ (.tail _ (.tail _ (.tail _ (.tail _ (.head _))))))))) (News.cons1 (N3 _ (.tail _ (.tail _ (.tail _ (.tail _ (.tail _ (.tail _ (.tail _ (.tail _ (.head _)))))))))) (News.cons1 (N3 _ (.tail _ (.tail _ (.tail _ (.tail _ (.tail _ (.tail _ (.tail _ (.tail _ (.tail _ (.head _))))))))))) (News.cons1 (N3 _ (.tail _ (.tail _ (.head _)))) (News.cons1 (N3 _ (.tail _ (.tail _ (.tail _ (.head _))))) (fun q hq => N3 q (.tail _ (.tail _ (.tail _ (.tail _ (.tail _ (.tail _ (.tail _ (.tail _ (.tail _ (.tail _ hq))))))))))))))))))))) (off2 of1 rfl lt1 q61) (.inr ⟨_, by k_mem, rfl, _, rfl⟩) ?_
    repeat' ((fail_if_success (with_reducible show wpAny _ _ (call (Value.ref _) _ _) _ _ _)); walk_at "mine step")
    rename News _ _ _ _ => N2
    rename (_ ∧ _) => ne'
    clear ne'
    rename (_ ∧ _) => off'
    have of2 := o3_7 o7 off'
    clear off'
    k_here
    refine' symbol_c (k := 4) (vs := (([Value.ref 64, Value.ref 67] ++ [Value.ref sy0]) ++ [Value.ref sy1])) (below_caller _) (by k_asm) (by k_asm) (by k_asm) rfl (by rfl) (News.cons1 (N2 _ (.tail _ (.tail _ (.tail _ (.tail _ (.tail _ (.tail _ (.tail _ (.tail _ (.head _)))))))))) (News.cons1 (N2 _ (.tail _ (.tail _ (.tail _ (.tail _ (.tail _ (.tail _ (.tail _ (.tail _ (.tail _ (.head _))))))))))) (News.cons1 (N2 _ (.head _)) (News.cons1 (N2 _ (.tail _ (.head _))) (News.cons1 (N2 _ (.tail _ (.tail _ (.head _)))) (News.cons1 (N2 _ (.tail _ (.tail _ (.tail _ (.head _))))) (News.cons1 (N2 _ (.tail _ (.tail _ (.tail _ (.tail _ (.head _)))))) (News.cons1 (N2 _ (.tail _ (.tail _ (.tail _ (.tail _ (.tail _ (.head _))))))) (News.cons1 (N2 _ (.tail _ (.tail _ (.tail _ (.tail _ (.tail _ (.tail _ (.head _)))))))) (News.cons1 (N2 _ (.tail _ (.tail _ (.tail _ (.tail _ (.tail _ (.tail _ (.tail _ (.head _))))))))) (fun q hq => N2 q (.tail _ (.tail _ (.tail _ (.tail _ (.tail _ (.tail _ (.tail _ (.tail _ (.tail _ (.tail _ hq))))))))))))))))))))) (by omega) (ne_turn of2 (.tail _ (.tail _ (.tail _ (.tail _ (.tail _ (.head _)))))) (ne_turn2 lt1 (.head _) q61 (ne_turn2 lt0 (.head _) q60 (List.forall_mem_cons.mpr ⟨eT1, hx1⟩)))) (ne_turn of2 (.tail _ (.tail _ (.tail _ (.tail _ (.tail _ (.tail _ (.head _))))))) (ne_turn2 lt1 (.tail _ (.head _)) q61 (ne_turn2 lt0 (.tail _ (.head _)) q60 (List.forall_mem_cons.mpr ⟨eT2, hx2⟩)))) (by k_mem) (by k_mem) (by k_mem) (by k_mem) hd1 s4 (nk1 _ (by decide) (nk0 _ (by decide) (show nokey [(Str.ofString "nil", Value.ref 64), (Str.ofString "t", Value.ref 67)] (Str.ofString "c") from List.forall_mem_cons.mpr ⟨by decide, List.forall_mem_cons.mpr ⟨by decide, List.forall_mem_nil _⟩⟩))) (Nat.le_of_ble_eq_true rfl) (by omega) ?_
    intro sy2 z2 oo2 kv2 x12 x22 x32 x42 h' tk' F' N' hd2 kl2 nk2 lt2 q62
    repeat' ((fail_if_success (with_reducible show LCg.CompEnd _ _ _ _ _ _ _ _ _ _ _ _ _ _)); walk_at "mine step")
    rename News _ _ _ _ => N3
    have c_z2 : @LT.lt Nat _ sy1 z2 := tb_ltOf lt2 _ (.tail _ (.tail _ (.tail _ (.tail _ (.tail _ (.head _))))))
    refine compEnd3 (by assumption) (News.cons1 (N3 _ (.tail _ (.tail _ (.tail _ (.tail _ (.head _)))))) (News.cons1 (N3 _ (.tail _ (.tail _ (.tail _ (.tail _ (.tail _ (.head _))))))) (News.cons1 (N3 _ (.tail _ (.tail _ (.tail _ (.tail _ (.tail _ (.tail _ (.head _)))))))) (News.cons1 (N3 _ (.head _)) (News.cons1 (N3 _ (.tail _ (.head _))) (News.cons1 (N3 _ (.tail _ (.tail _ (.tail _ (.tail _ (.tail _ (.tail _ (.tail _ (.head _))))))))) (News.cons1 (N3 _ (.tail _ (.tail _ (.tail _ (.tail _ (.tail _ (.tail _ (.tail _ (.tail _ (.head _)))))))))) (News.cons1 (N3 _ (.tail _ (.tail _ (.tail _ (.tail _ (.tail _ (.tail _ (.tail _ (.tail _ (.tail _ (.head _))))))))))) (News.cons1 (N3 _ (.tail _ (.tail _ (.tail _ (.tail _ (.tail _ (.tail _ (.tail _ (.tail _ (.tail _ (.tail _ (.head _)))))))))))) (News.cons1 (N3 _ (.tail _ (.tail _ (.tail _ (.tail _ (.tail _ (.tail _ (.tail _ (.tail _ (.tail _ (.tail _ (.tail _ (.head _))))))))))))) (News.cons1 (N3 _ (.tail _ (.tail _ (.head _)))) (News.cons1 (N3 _ (.tail _ (.tail _ (.tail _ (.head _))))) (fun q hq => N3 q (.tail _ (.tail _ (.tail _ (.tail _ (.tail _ (.tail _ (.tail _ (.tail _ (.tail _ (.tail _ (.tail _ (.tail _ hq))))))))))))))))))))))))) (off2 of2 rfl lt2 q62) (.inr ⟨_, by k_mem, rfl, _, rfl⟩) ?_
    repeat' ((fail_if_success (with_reducible show wpAny _ _ (execs (Stmt.Assign _ _ ⟨417, _, _, _⟩ :: _) _) _ _ _)); (fail_if_success (with_reducible show wpAny _ _ (execs (Stmt.Expr _ ⟨417, _, _, _⟩ :: _) _) _ _ _)); (fail_if_success (with_reducible show wpAny _ _ (execs (Stmt.If _ _ _ ⟨417, _, _, _⟩ :: _) _) _ _ _)); (fail_if_success (with_reducible show wpAny _ _ (execs (Stmt.For _ _ _ _ ⟨417, _, _, _⟩ :: _) _) _ _ _)); walk_at "mine step")
    rename (_ ∧ _) => o1
    obtain ⟨_, _, _, _, _, _, _, _, _, o1⟩ := o1
    have dsl := off1_mem o1
    clear o1
    (repeat (rename (_ ∧ _) => q; clear q))
    (repeat (rename AllLt _ _ => q; clear q))
    rename News _ _ _ _ => NN
    rename Fr _ _ _ _ => FF
    revert NN FF
    (repeat (rename News _ _ _ _ => q; clear q))
    (repeat (rename Fr _ _ _ _ => q; clear q))
    intro NN FF
    (rename_i g'_2 Q'_8 hn_8 hr_10 h'_20 tk'_10 D' h'_21 I' oI' C' oC' D'_1 m' h'_22 tk'_11 E' hC'_1 hv' hx' cE' qk_1 ek_1 h'_23 tk'_12 I'_1 oI'_1 C'_1 oC'_1 D'_2 m'_1 h'_24 tk'_13 E'_1 hC'_2 hv'_1 hx'_1 cE'_1 qk_2 ek_2 h'_25 tk'_14 I'_2 oI'_2 C'_2 oC'_2 D'_3 m'_2 h'_26 tk'_15 E'_2 hC'_3 hv'_2 hx'_2 cE'_2 D'_4 h'_27 tk'_16 left left_1 left_2 left_3 left_4 left_5 left_6 left_7 left_8; revert d kwd w qA qA_1 mg mb fa o pm doc w_1 w_2 w_3 w_4 w_5 hlay0 hr_1 hl2 w_6 w_7 w_8 w_9 w_10 hcond'_1 qA_2 qA_3 w_11 Q'_1 g'_2 L' h'_7 tk_1 Q'_2 ws' h'_1 g'_1 ys h'_2 tk'_2 Q'_3 h'_3 tk'_1 t' h'_4 h'_5 h'_6 dk se ce ws0 Q'_4 wo wd ob obd orw onm cc ccx fn pl va vd dd au pe ba bd bv o1 o2 o3 o4 o5 o6 o7 t1 t2 t3 t4 t5 t6 t7 t8 t9 u1 u2 u3 u4 u5 u6 u7 u8 u9 h'_8 tk'_3 h'_9 o' Q'_5 b0 e0 tx0 mk0 ls0 a0_0 a1_0 a2_0 a3_0 a4_0 b4_0 a5_0 b5_0 a6_0 b6_0 a7_0 a8_0 a9_0 a10_0 b10_0 a11_0 b11_0 a12_0 b12_0 a13_0 a14_0 a15_0 a16_0 a17_0 a18_0 a19_0 h'_10 tk'_4 b1 e1 tx1 mk1 ls1 a0_1 a1_1 a2_1 a3_1 a4_1 b4_1 a5_1 b5_1 a6_1 b6_1 a7_1 a8_1 a9_1 a10_1 b10_1 a11_1 b11_1 a12_1 b12_1 a13_1 a14_1 a15_1 a16_1 a17_1 a18_1 a19_1 h'_11 tk'_5 bl h'_13 h'_12 tk_2 Q'_6 i' it' h'_14 tk'_6 Q'_7 lo0 f0 v0 ov0 tl0 h'_15 tk'_7 h'_16 tk_3 it'_1 h'_17 tk'_8 Q'_8 lo1 f1 v1 ov1 tl1 h'_20 tk'_10 h'_18 tk h'_19 tk'_9 nx Q' D' h'_21 g' I' oI' C' oC' D'_1 m' h'_22 tk'_11 E' sy0 z0 oo0 kv0 x10 x20 x30 x40 h'_23 tk'_12 I'_1 oI'_1 C'_1 oC'_1 D'_2 m'_1 h'_24 tk'_13 E'_1 sy1 z1 oo1 kv1 x11 x21 x31 x41 h'_25 tk'_14 I'_2 oI'_2 C'_2 oC'_2 D'_3 m'_2 h'_26 tk'_15 E'_2 sy2 z2 oo2 kv2 x12 x22 x32 x42 h' tk' D'_4 h'_27 tk'_16; (repeat revert ‹_›); intro hp1; exact hp1.out)

-- 94_stack
noncomputable def g_stD : G1 g_stC.Pz1 := by
  apply G1.mk
  case impz =>
    intro hp1
    unfold g_stC
    dsimp only
    k_fill
    set_option tactic.hygienic false in intros
    repeat' ((fail_if_success (with_reducible show wpAny _ _ (call (Value.ref _) _ _) _ _ _)); walk_at "mine step")
    k_here
    refine' stack_c (below_caller _) ?F9 ?X9 ?T9 rfl ?N9 ?_
    case F9 => k_asm
    case X9 => k_asm
    case T9 => k_asm
    case N9 => k_asm
    k_whole
    intro sk sd sr ts1 ts2 h' tk' F' N' lS c_sk c_sr
    repeat' ((fail_if_success (with_reducible show wpAny _ _ (eval (Expr.Dict _ _ _) _) _ _ _)); walk_at "mine step")
    rename News _ _ _ _ => NB
    have hB := fun p hp => Heap.lt_size (NB p hp).1
    repeat' ((fail_if_success (with_reducible show wpAny _ _ (execs (Stmt.Assign _ _ ⟨419, _, _, _⟩ :: _) _) _ _ _)); (fail_if_success (with_reducible show wpAny _ _ (execs (Stmt.Expr _ ⟨419, _, _, _⟩ :: _) _) _ _ _)); (fail_if_success (with_reducible show wpAny _ _ (execs (Stmt.If _ _ _ ⟨419, _, _, _⟩ :: _) _) _ _ _)); (fail_if_success (with_reducible show wpAny _ _ (execs (Stmt.For _ _ _ _ ⟨419, _, _, _⟩ :: _) _) _ _ _)); walk_at "mine step")
    rename News _ _ _ _ => NE
    rename Fr _ _ _ _ => FE
    obtain ⟨kp, e⟩ : ∃ x, x = nA1 NE := ⟨_, rfl⟩
    simp only [nA1] at e; subst e
    obtain ⟨rw, erw⟩ : ∃ x, x = nA2 NE := ⟨_, rfl⟩
    simp only [nA2] at erw
    obtain ⟨sl, e⟩ : ∃ x, x = nA6 NE := ⟨_, rfl⟩
    simp only [nA6] at e; subst e
    have c_rw : @LT.lt Nat _ sr rw := by rw [erw]; exact hB _ (.head _)
    have c_kp : @LT.lt Nat _ rw kp := by rw [erw]; exact And.left (by assumption)
    have c_sd : @LT.lt Nat _ sy2 sd := lS _ (.tail _ (.head _))
    have c_sl : @LT.lt Nat _ sl sd := lS _ (.head _)
    have dn1 : @Ne Nat sl ce := Ne.symm (dsl _ m_ce)
    have dn2 : @Ne Nat sl se := Ne.symm (dsl _ m_se)
    have dn3 : @Ne Nat sl wd := Ne.symm (dsl _ mwd)
    have dn4 : @Ne Nat sl dd := Ne.symm (dsl _ m_dd)
    have dn5 : @Ne Nat sl v0 := Ne.symm (dsl _ m_v0)
    have dn6 : @Ne Nat sl v1 := Ne.symm (dsl _ m_v1)
    have lorw : (rw == sysModules) = false := by
      have q := (by assumption : (_ == sysModules) = false)
      rw [erw]; exact q
    obtain ⟨ro, mro, dro⟩ : ∃ ro, (rw, ro) ∈ nL NE ∧ Obj.IsDictOf (intKind PP w) ro [] := ⟨_, by rw [erw]; unfold nL; exact .tail _ (.tail _ (.head _)), by assumption⟩
    obtain ⟨nz, hnz⟩ : ∃ nz, nz = nL NE := ⟨_, rfl⟩
    have NZ := nAs NE hnz
    have up : ∀ p ∈ nx, p ∈ nz := fun p hp => by rw [hnz]; unfold nL; exact .tail _ (.tail _ (.tail _ (.tail _ (.tail _ (.tail _ (.tail _ (.tail _ (.tail _ (.tail _ (.tail _ (.tail _ (.tail _ (.tail _ (.tail _ (.tail _ hp)))))))))))))))
    rw [← hnz] at mro
    have mm : ∀ p, p ∈ nL NE → p ∈ nz := fun p hp => by rw [hnz]; exact hp
    have e_wd := Nat.lt_trans (Nat.lt_trans c_cl c_dk) c_wd
    have e_on := Nat.lt_trans b_cl c_onm
    have e_dd := Nat.lt_trans e_on a_dd
    have e_v0 := Nat.lt_trans e_on a_v0
    have e_v1 := Nat.lt_trans e_on a_v1
    have e_sd := Nat.lt_trans (Nat.lt_trans (Nat.lt_trans (Nat.lt_trans (Nat.lt_trans (Nat.lt_trans (Nat.lt_trans e_v1 c_z0) q60) c_z1) q61) c_z2) q62) c_sd
    have e_sr := Nat.lt_trans (Nat.lt_trans e_sd c_sk) c_sr
    have e_rw := Nat.lt_trans e_sr c_rw
    have e_kp := Nat.lt_trans e_rw c_kp
    have c'vd : @LT.lt Nat _ onm vd := a_vd
    have c'bd : @LT.lt Nat _ au bd := Nat.lt_trans c_pe c_bd
    have c'e1 : @LT.lt Nat _ b0 e1 := Nat.lt_trans c_ls0 c_e1
    have c'bl : @LT.lt Nat _ b1 bl := Nat.lt_trans c_ls1 c_bl
    obtain ⟨A, hA⟩ : ∃ A : Ad, A = { wo := wo, wd := wd, ob := ob, obd := obd, orw := orw, onm := onm, cc := cc, va := va, vd := vd, dd := dd, au := au, pe := pe, ba := ba, bd := bd, bv := bv, bl := bl, b0 := b0, e0 := e0, l0 := lo0, f0 := f0, v0 := v0, b1 := b1, e1 := e1, l1 := lo1, f1 := f1, v1 := v1, sl := sl, s0 := sy0, z0 := z0, s1 := sy1, z1 := z1, s2 := sy2, z2 := z2, sk := sk, sd := sd, sr := sr, rw := rw, kp := kp, dk := dk, ce := ce, se := se, tk := fun n => ([t9, u1, u2, u3, u4, u5, u6, u7, 0, 0, t2, t3, t4, t1, tl0, tl1, 0, 0, 0, 0, x10, x20, x30, x40, x11, x21, x31, x41, x12, x22, x32, x42, ts1, ts2, 0, 0, 0, 0, 0, 0, t7, t8] : List Nat).getD n 0, c := fun n => ([0, 3, 0] : List Nat).getD n 0, off := [] } := ⟨_, rfl⟩
    have R : Rep w A σ₀ nz := by
      rw [hA]
      exact Rep.start rfl c_se c_dk c_wd c_wo c_obd c_ob c_orw c_onm c'vd c_va c_dd c_au c'bd c_ba c_bv c_e0 c_b0 c'e1 c_b1 c'bl c_f0 c_lo0 c_v0 c_f1 c_lo1 c_v1 c_z0 q60 c_z1 q61 c_z2 q62 c_sd c_sk c_sr c_rw c_kp
        dn1 dn2 dn3 dn4 dn5 dn6 c_sl
        (up _ mwo) (up _ m_va) (up _ m_vd) (up _ m_ba) (up _ m_bd) (up _ m_bl) (up _ m_b0) (up _ m_lo0) (up _ m_f0) (up _ m_b1) (up _ m_lo1) (up _ m_f1) (mm _ (.tail _ (.tail _ (.tail _ (.tail _ (.tail _ (.tail _ (.head _)))))))) (mm _ (.tail _ (.tail _ (.tail _ (.tail _ (.head _)))))) (mm _ (.tail _ (.tail _ (.tail _ (.tail _ (.tail _ (.head _))))))) (up _ m_dk) (up _ mob) (up _ mobd) (mm _ (.tail _ (.tail _ (.tail _ (.tail _ (.tail _ (.tail _ (.tail _ (.tail _ (.tail _ (.tail _ (.tail _ (.head _))))))))))))) (mm _ (.tail _ (.tail _ (.tail _ (.tail _ (.tail _ (.tail _ (.tail _ (.tail _ (.tail _ (.tail _ (.tail _ (.tail _ (.head _)))))))))))))) (mm _ (.tail _ (.tail _ (.tail _ (.tail _ (.tail _ (.tail _ (.tail _ (.tail _ (.tail _ (.head _))))))))))) (mm _ (.tail _ (.tail _ (.tail _ (.tail _ (.tail _ (.tail _ (.tail _ (.tail _ (.tail _ (.tail _ (.head _)))))))))))) (mm _ (.tail _ (.tail _ (.tail _ (.tail _ (.tail _ (.tail _ (.tail _ (.head _))))))))) (mm _ (.tail _ (.tail _ (.tail _ (.tail _ (.tail _ (.tail _ (.tail _ (.tail _ (.head _))))))))))
        ⟨_, _, up _ m_e0, rfl⟩ ⟨_, _, up _ m_e1, rfl⟩ ⟨_, up _ m_au, d2⟩ ⟨_, up _ m_bv, d1⟩ ⟨_, _, (mm _ (.tail _ (.tail _ (.tail _ (.tail _ (.tail _ (.tail _ (.tail _ (.tail _ (.tail _ (.tail _ (.tail _ (.tail _ (.tail _ (.tail _ (.tail _ (.head _))))))))))))))))), Nat.le_of_ble_eq_true rfl⟩
        ⟨_, _, (mm _ (.tail _ (.tail _ (.tail _ (.tail _ (.tail _ (.tail _ (.tail _ (.tail _ (.tail _ (.tail _ (.tail _ (.tail _ (.tail _ (.tail _ (.head _)))))))))))))))), hd2, by omega, nk2 _ (by decide) (nk1 _ (by decide) (nk0 _ (by decide) (show nokey [(Str.ofString "nil", Value.ref 64), (Str.ofString "t", Value.ref 67)] (Str.ofString ":key") from List.forall_mem_cons.mpr ⟨by decide, List.forall_mem_cons.mpr ⟨by decide, List.forall_mem_nil _⟩⟩)))⟩
        s4 ⟨s3, s2, s1, s09, s19, lorw⟩ (up _ mwd) ⟨_, up _ m_dd, d3⟩ ⟨_, up _ m_v0, d09⟩ ⟨_, up _ m_v1, d19⟩ ⟨_, mro, dro⟩ ⟨_, (mm _ (.tail _ (.head _)))⟩ ⟨_, (mm _ (.tail _ (.tail _ (.tail _ (.head _)))))⟩
        ⟨_, _, _, up _ m_ce, by assumption, cells_b _, cells_l _⟩ ⟨_, _, _, up _ m_se, seed_lo _ _, seed_hi _ _ (by omega)⟩
    have hoff : A.off = [] := by rw [hA]
    have pcell : PS A nz _ _ := ⟨up _ mcell, by rw [hA]; exact notM c_cl2 (Nat.ne_of_lt c_cl) (Nat.ne_of_lt e_wd) (Nat.ne_of_lt e_dd) (Nat.ne_of_lt e_v0) (Nat.ne_of_lt e_v1) (Nat.ne_of_lt e_sr) (Nat.ne_of_lt e_rw) (Nat.ne_of_lt e_kp), fun q => by rw [hoff] at q; cases q⟩
    have f1 : A.dk = dk := by rw [hA]
    have f2 : A.bl = bl := by rw [hA]
    have f3 : A.sl = sl := by rw [hA]
    have f4 : A.sk = sk := by rw [hA]
    have f5 : A.kp = kp := by rw [hA]
    have f6 : A.rw = rw := by rw [hA]
    have f7 : A.wo = wo := by rw [hA]
    clear hA
    rw [← erw] at FE
    clear hB mm hnz up NE
    clear c_se c_dk c_wd c_wo c_obd c_ob c_orw c_onm c'vd c_va c_dd c_au c'bd c_ba c_bv c_e0 c_b0 c'e1 c_b1 c'bl c_f0 c_lo0 c_v0 c_f1 c_lo1 c_v1 c_z0 q60 c_z1 q61 c_z2 q62 c_sd c_sk c_sr c_rw c_kp dn1 dn2 dn3 dn4 dn5 dn6 c_sl c_cl c_cl2 e_wd e_on e_dd e_v0 e_v1 e_sd e_sr e_rw e_kp a_vd a_dd a_v0 a_v1 b_cl
    revert FE NZ
    (repeat (rename News _ _ _ _ => q; clear q))
    (repeat (rename Fr _ _ _ _ => q; clear q))
    intro FE NZ
    subst f1 f2 f3 f4 f5 f6 f7
    repeat' ((fail_if_success (with_reducible show wpAny _ _ (exec (Stmt.For _ _ _ _ _) _) _ _ _)); walk_at "mine step")
    with_unfolding_all refine' For_invVF FE ?kk1 ?kk2 ?_
    case kk1 => exact rfl
    case kk2 => exact rfl
    repeat' ((fail_if_success (with_reducible show wpAny _ _ (pyIter _) _ _ _)); walk_at "mine step")
    (rename_i tk_4 Q'_9 hn_9 hr_11 h'_28 tk'_17 Q'_10 hn_10 hr_12 h'_29 Q'_11 hn_11 hr_13 h'_30 o_1 a a_1 a_2 a_3 a_4 h'_31 D'_4 h'_32 h'_33 h'_34 h'_35 h'_36 N' l1 l1_1 F' a_5 hAllLt hAllLt_1 h'_37 tk_5 qE qE_1 qE_2 a_6 a_7 a_8 a_9; revert d kwd w qA qA_1 mg mb fa o pm doc w_1 w_2 w_3 w_4 w_5 hlay0 hr_1 hl2 w_6 w_7 w_8 w_9 w_10 hcond'_1 qA_2 qA_3 w_11 Q'_1 g'_2 L' h'_7 tk_1 Q'_2 ws' h'_1 g'_1 ys h'_2 tk'_2 Q'_3 h'_3 tk'_1 t' h'_4 h'_5 h'_6 se ce ws0 Q'_4 wd ob obd orw onm cc ccx fn pl va vd dd au pe ba bd bv o1 o2 o3 o4 o5 o6 o7 t1 t2 t3 t4 t5 t6 t7 t8 t9 u1 u2 u3 u4 u5 u6 u7 u8 u9 h'_8 tk'_3 h'_9 o' Q'_5 b0 e0 tx0 mk0 ls0 a0_0 a1_0 a2_0 a3_0 a4_0 b4_0 a5_0 b5_0 a6_0 b6_0 a7_0 a8_0 a9_0 a10_0 b10_0 a11_0 b11_0 a12_0 b12_0 a13_0 a14_0 a15_0 a16_0 a17_0 a18_0 a19_0 h'_10 tk'_4 b1 e1 tx1 mk1 ls1 a0_1 a1_1 a2_1 a3_1 a4_1 b4_1 a5_1 b5_1 a6_1 b6_1 a7_1 a8_1 a9_1 a10_1 b10_1 a11_1 b11_1 a12_1 b12_1 a13_1 a14_1 a15_1 a16_1 a17_1 a18_1 a19_1 h'_11 tk'_5 h'_13 h'_12 tk_2 Q'_6 i' it' h'_14 tk'_6 Q'_7 lo0 f0 v0 ov0 tl0 h'_15 tk'_7 h'_16 tk_3 it'_1 h'_17 tk'_8 Q'_8 lo1 f1 v1 ov1 tl1 h'_20 tk'_10 h'_18 tk_4 h'_19 tk'_9 nx Q'_9 D' h'_21 g' I' oI' C' oC' D'_1 m' h'_22 tk'_11 E' sy0 z0 oo0 kv0 x10 x20 x30 x40 h'_23 tk'_12 I'_1 oI'_1 C'_1 oC'_1 D'_2 m'_1 h'_24 tk'_13 E'_1 sy1 z1 oo1 kv1 x11 x21 x31 x41 h'_25 tk'_14 I'_2 oI'_2 C'_2 oC'_2 D'_3 m'_2 h'_26 tk'_15 E'_2 sy2 z2 oo2 kv2 x12 x22 x32 x42 h'_28 tk'_17 h'_27 tk'_16 Q'_10 sd sr ts1 ts2 h' tk' h'_29 tk Q'_11 h'_30 o_1 a_2 a_4 h'_31 D'_4 h'_32 h'_33 h'_34 h'_35 h'_36 ro nz A Q' h'_37 tk_5 qE qE_1 qE_2; (repeat revert ‹_›); intro hp1; exact hp1.out)

-- 95_turn
section
example : True := by
  k_with "k_mem" => (change (_ : Addr × Obj) ∈ (_ : List (Addr × Obj)); first | ktr_member | exact Kp.cellm (by assumption))
  trivial
example : True := by
  k_with "call ref" => ((with_reducible show wpAny _ _ (call (Value.ref 842) _) _ _ _); k_here; k_dflt (refine draw_c (by exact below_caller _) (by k_asm) (by k_asm) (by k_asm) (by rfl) (by k_asm) (by assumption) (by omega) ?_; k_whole); intro v' t' h' tk' nx' g1' g2' F' N' RN xx'; (have kk' := Kp.ext (by assumption) xx'))
  trivial
noncomputable def g_stE : G2 g_stD.Pz1 := by
  apply G2.mk
  case impz =>
    intro hp1 hp2
    unfold g_stD
    dsimp only
    k_fill
    set_option tactic.hygienic false in intros
    rename IsRange _ _ _ _ _ _ _ _ => hr
    rename Fr _ _ _ _ => F1
    rename News _ _ _ _ => N1
    refine for_range2 (Str.ofString "current") [Str.ofString "way", Str.ofString "name", Str.ofString "value", Str.ofString "symbol", Str.ofString "place", Str.ofString "depth"]
      (fun I i c nx' => ∃ σ, Rep w A σ nx' ∧ Agree i σ ∧ Held σ ∧ isOpt σ.cur c = true ∧ PS A nx' (psA pcell) (psO pcell) ∧ (∀ p ∈ nx', p.1 ≠ I)) rfl hr (by decide) (n := 8) (by decide) F1 N1 rfl ?hj9 ?hoff9 ?turn9 ?done9
    case hj9 => intro I hI; exact ⟨σ₀, R, Agree.start, Held.start, rfl, pcell, fun p hp => Nat.ne_of_lt (hI p hp)⟩
    case hoff9 => rintro I i c nx' ⟨σ, _, _, _, _, _, h⟩; exact h
    case turn9 =>
      clear N1 F1
      rintro i t u c nx1 I it h₁ tk₁ hi ⟨σ, R1, G1, H1, hc1, pc1, ho1⟩ F2 N2
      have R2 := Rep.into (it := it) R1 ho1
      have kp2 : Kp (A.at I) I it (psA pcell) (psO pcell) ((I, it) :: nx1) := ⟨.head _, fun q => R2.moff _ q (.head _), PS.into ho1 _ _ pc1⟩
      obtain ⟨BB, hB⟩ : ∃ BB, BB = A.at I := ⟨_, rfl⟩
      rw [← hB] at R2 kp2
      have q1 : A.dk = BB.dk := by rw [hB]
      have q2 : A.bl = BB.bl := by rw [hB]
      have q3 : A.sl = BB.sl := by rw [hB]
      have q4 : A.sk = BB.sk := by rw [hB]
      have q5 : A.kp = BB.kp := by rw [hB]
      have q6 : A.rw = BB.rw := by rw [hB]
      have q7 : A.wo = BB.wo := by rw [hB]
      have dcell : (psO pcell).data = Data.cell (some (Value.ref BB.wo)) := by rw [← q7]; exact d'
      simp only [q1, q2, q3, q4, q5, q6] at F2
      obtain ⟨nx2, hnx2⟩ : ∃ nx2, nx2 = (I, it) :: nx1 := ⟨_, rfl⟩
      rw [← hnx2] at N2 R2 kp2
      clear hnx2
      repeat' ((fail_if_success (with_reducible show wpAny _ _ (call (Value.ref _) _ _) _ _ _)); walk_at "mine step")
      k_here
      refine' draw_c ?zB3 ?zF3 ?zX3 ?zT3 ?zk3 ?zN3 ?zR3 ?zm3 ?_
      case zF3 => k_asm
      case zB3 => exact below_caller _
      case zX3 => k_asm
      case zT3 => k_asm
      case zk3 => rfl
      case zN3 => k_asm
      case zR3 => exact R2
      case zm3 => omega
      k_whole
      intro way tway h' tk' nx3 loway hiway F' N' R3 x3
      have kp3 := kp2.ext x3
      repeat' ((fail_if_success (with_reducible show wpAny _ _ (call (Value.ref _) _ _) _ _ _)); walk_at "mine step")
      k_here
      refine' draw_c ?zB4 ?zF4 ?zX4 ?zT4 ?zk4 ?zN4 ?zR4 ?zm4 ?_
      case zF4 => k_asm
      case zB4 => exact below_caller _
      case zX4 => k_asm
      case zT4 => k_asm
      case zk4 => rfl
      case zN4 => k_asm
      case zR4 => exact R3
      case zm4 => omega
      k_whole
      intro nm tnm h' tk' nx4 lonm hinm F' N' R4 x4
      have kp4 := kp3.ext x4
      repeat' ((fail_if_success (with_reducible show wpAny _ _ (call (Value.ref _) _ _) _ _ _)); walk_at "mine step")
      k_here
      refine' draw_c ?zB5 ?zF5 ?zX5 ?zT5 ?zk5 ?zN5 ?zR5 ?zm5 ?_
      case zF5 => k_asm
      case zB5 => exact below_caller _
      case zX5 => k_asm
      case zT5 => k_asm
      case zk5 => rfl
      case zN5 => k_asm
      case zR5 => exact R4
      case zm5 => omega
      k_whole
      intro vz tvz h' tk' nx5 lovz hivz F' N' R5 x5
      have kp5 := kp4.ext x5
      repeat' ((fail_if_success (with_reducible show wpAny _ _ (execs (Stmt.Assign _ _ ⟨421, _, _, _⟩ :: _) _) _ _ _)); (fail_if_success (with_reducible show wpAny _ _ (execs (Stmt.Expr _ ⟨421, _, _, _⟩ :: _) _) _ _ _)); (fail_if_success (with_reducible show wpAny _ _ (execs (Stmt.If _ _ _ ⟨421, _, _, _⟩ :: _) _) _ _ _)); (fail_if_success (with_reducible show wpAny _ _ (execs (Stmt.For _ _ _ _ ⟨421, _, _, _⟩ :: _) _) _ _ _)); walk_at "mine step")
      rename News _ _ _ _ => N9
      replace N9 := News.tail N9
      have hnm : nm = 0 ∨ nm = 1 ∨ nm = 2 := by omega
      repeat' ((fail_if_success (with_reducible show wpAny _ _ (subscriptTail _ _ _ _) _ _ _)); walk_at "mine step")
      k_here
      refine' sym_item ?zN6 R5 hnm ?_ ?zs ?zg
      case zN6 => k_asm
      case zs => with_unfolding_all rfl
      case zg => (intro _; with_unfolding_all rfl)
      repeat' ((fail_if_success (with_reducible show wpAny _ _ (exec (Stmt.If _ _ _ _) _) _ _ _)); walk_at "mine step")
      (rename_i h'_38 tk'_18 tk_6 hc0' Q'_12 hn_12 hr_14 hr_15 Q'_13 hn_13 hr_16 h'_39 tk'_19 h'_40 tk'_20 h'_41 hk' x' x'_1 nm' h'_42 h'_43 h'_44 h'_45 Q'_14 hn_14 hr_17 h'_46 F' N'; revert d kwd w qA qA_1 mg mb fa o pm doc w_1 w_2 w_3 w_4 w_5 hlay0 hr_1 hl2 w_6 w_7 w_8 w_9 w_10 hcond'_1 qA_2 qA_3 w_11 Q'_1 g'_2 L' h'_7 tk_1 Q'_2 ws' h'_1 g'_1 ys h'_2 tk'_2 Q'_3 h'_3 tk'_1 t' h'_4 h'_5 h'_6 se ce ws0 Q'_4 wd ob obd orw onm cc ccx fn pl va vd dd au pe ba bd bv o1 o2 o3 o4 o5 o6 o7 t1 t2 t3 t4 t5 t6 t7 t8 t9 u1 u2 u3 u4 u5 u6 u7 u8 u9 h'_8 tk'_3 h'_9 o' Q'_5 b0 e0 tx0 mk0 ls0 a0_0 a1_0 a2_0 a3_0 a4_0 b4_0 a5_0 b5_0 a6_0 b6_0 a7_0 a8_0 a9_0 a10_0 b10_0 a11_0 b11_0 a12_0 b12_0 a13_0 a14_0 a15_0 a16_0 a17_0 a18_0 a19_0 h'_10 tk'_4 b1 e1 tx1 mk1 ls1 a0_1 a1_1 a2_1 a3_1 a4_1 b4_1 a5_1 b5_1 a6_1 b6_1 a7_1 a8_1 a9_1 a10_1 b10_1 a11_1 b11_1 a12_1 b12_1 a13_1 a14_1 a15_1 a16_1 a17_1 a18_1 a19_1 h'_11 tk'_5 h'_13 h'_12 tk_2 Q'_6 i' it' h'_14 tk'_6 Q'_7 lo0 f0 v0 ov0 tl0 h'_15 tk'_7 h'_16 tk_3 it'_1 h'_17 tk'_8 Q'_8 lo1 f1 v1 ov1 tl1 h'_20 tk'_10 h'_18 tk_4 h'_19 tk'_9 nx Q'_9 D' h'_21 g' I' oI' C' oC' D'_1 m' h'_22 tk'_11 E' sy0 z0 oo0 kv0 x10 x20 x30 x40 h'_23 tk'_12 I'_1 oI'_1 C'_1 oC'_1 D'_2 m'_1 h'_24 tk'_13 E'_1 sy1 z1 oo1 kv1 x11 x21 x31 x41 h'_25 tk'_14 I'_2 oI'_2 C'_2 oC'_2 D'_3 m'_2 h'_26 tk'_15 E'_2 sy2 z2 oo2 kv2 x12 x22 x32 x42 h'_28 tk'_17 h'_27 tk'_16 Q'_10 sd sr ts1 ts2 h'_38 tk'_18 h'_29 tk_6 Q'_11 h'_30 o_1 a_2 hc0' h'_31 D'_4 h'_32 h'_33 h'_34 h'_35 h'_36 ro nz A Q'_12 h'_37 tk_5 qE qE_1 qE_2 i t u c nx1 I it h₁ tk₁ σ BB nx2 Q'_13 way tway h'_39 tk'_19 nx3 nm tnm h'_40 tk'_20 nx4 vz tvz h' tk' nx5 h'_41 nm' h'_42 h'_43 h'_44 h'_45 Q'_14 h'_46 tk Q'; (repeat revert ‹_›); intro hp1 hp2; exact hp1.out)
    case done9 => (rename_i hr_14; revert d kwd w qA qA_1 mg mb fa o pm doc w_1 w_2 w_3 w_4 w_5 hlay0 hr_1 hl2 w_6 w_7 w_8 w_9 w_10 hcond'_1 qA_2 qA_3 w_11 Q'_1 g'_2 L' h'_7 tk_1 Q'_2 ws' h'_1 g'_1 ys h'_2 tk'_2 Q'_3 h'_3 tk'_1 t' h'_4 h'_5 h'_6 se ce ws0 Q'_4 wd ob obd orw onm cc ccx fn pl va vd dd au pe ba bd bv o1 o2 o3 o4 o5 o6 o7 t1 t2 t3 t4 t5 t6 t7 t8 t9 u1 u2 u3 u4 u5 u6 u7 u8 u9 h'_8 tk'_3 h'_9 o' Q'_5 b0 e0 tx0 mk0 ls0 a0_0 a1_0 a2_0 a3_0 a4_0 b4_0 a5_0 b5_0 a6_0 b6_0 a7_0 a8_0 a9_0 a10_0 b10_0 a11_0 b11_0 a12_0 b12_0 a13_0 a14_0 a15_0 a16_0 a17_0 a18_0 a19_0 h'_10 tk'_4 b1 e1 tx1 mk1 ls1 a0_1 a1_1 a2_1 a3_1 a4_1 b4_1 a5_1 b5_1 a6_1 b6_1 a7_1 a8_1 a9_1 a10_1 b10_1 a11_1 b11_1 a12_1 b12_1 a13_1 a14_1 a15_1 a16_1 a17_1 a18_1 a19_1 h'_11 tk'_5 h'_13 h'_12 tk_2 Q'_6 i' it' h'_14 tk'_6 Q'_7 lo0 f0 v0 ov0 tl0 h'_15 tk'_7 h'_16 tk_3 it'_1 h'_17 tk'_8 Q'_8 lo1 f1 v1 ov1 tl1 h'_20 tk'_10 h'_18 tk_4 h'_19 tk'_9 nx Q'_9 D' h'_21 g' I' oI' C' oC' D'_1 m' h'_22 tk'_11 E' sy0 z0 oo0 kv0 x10 x20 x30 x40 h'_23 tk'_12 I'_1 oI'_1 C'_1 oC'_1 D'_2 m'_1 h'_24 tk'_13 E'_1 sy1 z1 oo1 kv1 x11 x21 x31 x41 h'_25 tk'_14 I'_2 oI'_2 C'_2 oC'_2 D'_3 m'_2 h'_26 tk'_15 E'_2 sy2 z2 oo2 kv2 x12 x22 x32 x42 h'_28 tk'_17 h'_27 tk'_16 Q'_10 sd sr ts1 ts2 h' tk' h'_29 tk Q'_11 h'_30 o_1 a_2 a_4 h'_31 D'_4 h'_32 h'_33 h'_34 h'_35 h'_36 ro nz A Q' h'_37 tk_5 qE qE_1 qE_2; (repeat revert ‹_›); intro hp1 hp2; exact hp2.out)
end

example : True := by
  k_with_none
  k_with "mine c" => with_reducible first | assumption | exact And.left (by assumption) | exact And.left (And.right (by assumption)) | exact And.left (And.right (And.right (by assumption))) | exact And.left (And.right (And.right (And.right (by assumption)))) | exact And.left (And.right (And.right (And.right (And.right (by assumption))))) | exact And.left (And.right (And.right (And.right (And.right (And.right (by assumption)))))) | exact And.left (And.right (And.right (And.right (And.right (And.right (And.right (by assumption))))))) | exact And.left (And.right (And.right (And.right (And.right (And.right (And.right (And.right (by assumption)))))))) | exact And.left (And.right (And.right (And.right (And.right (And.right (And.right (And.right (And.right (by assumption))))))))) | exact And.left (And.right (And.right (And.right (And.right (And.right (And.right (And.right (And.right (And.right (by assumption)))))))))) | exact And.left (And.right (And.right (And.right (And.right (And.right (And.right (And.right (And.right (And.right (And.right (by assumption))))))))))) | exact And.left (And.right (And.right (And.right (And.right (And.right (And.right (And.right (And.right (And.right (And.right (And.right (by assumption)))))))))))) | exact And.left (And.right (And.right (And.right (And.right (And.right (And.right (And.right (And.right (And.right (And.right (And.right (And.right (by assumption))))))))))))) | exact And.left (And.right (And.right (And.right (And.right (And.right (And.right (And.right (And.right (And.right (And.right (And.right (And.right (And.right (by assumption)))))))))))))) | exact And.right (by assumption) | exact And.right (And.right (by assumption)) | exact And.right (And.right (And.right (by assumption))) | exact And.right (And.right (And.right (And.right (by assumption)))) | exact And.right (And.right (And.right (And.right (And.right (by assumption))))) | exact And.right (And.right (And.right (And.right (And.right (And.right (by assumption)))))) | exact And.right (And.right (And.right (And.right (And.right (And.right (And.right (by assumption)))))))
  k_with "k_all" => first | assumption | exact fun p hp => Nat.ne_of_lt (tb_ltOf (by assumption) p hp) | exact fun p hp => Nat.ne_of_gt (tb_ltOf (by assumption) p hp) | ((repeat (rename _ ∧ _ => q; cases q)); exact fun p hp => Nat.ne_of_lt (tb_ltOf (by assumption) p hp)) | ((repeat (rename _ ∧ _ => q; cases q)); exact fun p hp => Nat.ne_of_gt (tb_ltOf (by assumption) p hp))
  k_with "mine sub" => (intro p hp; (repeat first | exact hp | refine List.Mem.tail _ ?_))
  k_with "mine opt" => first | assumption | exact isOpt_none | exact isOpt_int _ _
  k_with "mine tk" => first | assumption | exact Mine.tk2 (by walk_at "mine opt") (by walk_at "mine opt")
  k_with "compareOp In ref ref" => (k_here; k_dflt (refine rows_in (by exact Nat.le_of_ble_eq_true rfl) (by k_asm) (by assumption) (by walk_at "mine sub") (by k_mem) (by assumption) (by k_mem) (by walk_at "mine tk") ?_; k_whole))
  k_with "compareOp NotIn ref ref" => (k_here; k_dflt (refine rows_notin (by exact Nat.le_of_ble_eq_true rfl) (by k_asm) (by assumption) (by walk_at "mine sub") (by k_mem) (by assumption) (by k_mem) (by walk_at "mine tk") ?_; k_whole))
  k_with "call builtin:dict.get" => (k_here; k_dflt (refine rows_get (by exact Nat.le_of_ble_eq_true rfl) (by k_asm) (by assumption) (by walk_at "mine sub") (by k_mem) (by assumption) (by k_mem) (by walk_at "mine tk") ?_; k_whole); intro v' hv')
  k_with "getMethod ref" => (k_here; (with_reducible show wpAny _ _ (getMethod (Value.ref _) _ _) _ _ _); k_dflt (refine rows_meth (by first | exact PySem.F.slot_dict_get | exact PySem.F.slot_dict_pop) (by rfl) (by k_asm) (by assumption) (by walk_at "mine sub") (by k_mem) (by assumption) ?_; k_whole))
  k_with "subscriptTail" => (k_here; (with_reducible show wpAny _ _ (subscriptTail _ _ (Value.ref _) (Value.ref _)) _ _ _); k_dflt (refine rows_itemS (by exact Nat.le_of_ble_eq_true rfl) (by k_asm) (by assumption) (by walk_at "mine sub") (by k_mem) (by assumption) (by k_mem) (by walk_at "mine tk") (by assumption) ?_ (by with_unfolding_all rfl) (by (intro _; with_unfolding_all rfl)); k_whole); intro v' d' hl' hv')
  k_with "call builtin:len" => (k_here; (with_reducible show wpAny _ _ (call (Value.builtin "len") [Value.ref _]) _ _ _); k_dflt (refine lenL (by k_asm) (by k_mem) (by omega) ?_; k_whole); intro t' tk')
  k_with "call builtin:dict.pop" => (k_here; (with_reducible show wpAny _ _ (call (Value.builtin _) [Value.ref _, Value.int _ _]) _ _ _); k_dflt (refine popI (by k_asm) (by k_asm) (by k_updF) (by assumption) (by assumption) (by assumption) (by omega) ?_; k_whole); intro h' o' v' kvs' D' F' N' hd' hf' hn' hl'; (try dsimp only at N'))
  k_with "setItem ref int" => (k_here; k_dflt (refine setItem_K PyProof.V.same_int (intKind_is _ _ _ _) (by k_flat) (by k_asm) (by k_asm) (by k_updF) (by assumption) (by assumption) ?_ (by (rw [sizeLine_eq]; omega)); ); intro h' o' F' N' hd' hf'; (try dsimp only at N'))
  k_with "call builtin:list.pop" => (k_here; k_dflt (refine pop0 (by k_asm) (by k_asm) (by k_upd) (by (have hq := IntsAre.length (by assumption); rw [sizeLine_eq]; simp only [List.length_cons] at *; omega)) ?_; k_whole); intro h' F' N'; (try dsimp only [List.nil_append, List.cons_append] at N'))
  k_with "call builtin:list.append" => (k_here; (with_reducible show wpAny _ _ (call (Value.builtin _) [Value.ref _, _]) _ _ _); k_dflt (refine appF (by k_asm) (by k_asm) (by first | omega | (simp only [List.length_append, List.length_cons, List.length_nil]; omega)) (by k_upd) ?_; k_whole); intro h' F' N'; (try dsimp only [List.nil_append, List.cons_append] at N'))
  k_with "getItem ref int" => (k_here; k_dflt (refine getItem_some PyProof.V.same_int (intKind_is _ _ _ _) (by k_tabat) (by assumption) ?_; k_whole); intro v' d' hl' hv')
  k_with "mine stat" => (rename Rep _ _ _ _ => RR; refine Rep.use RR ?_; intro hS1 hS2 hS3 oS4 hS4 kS4 hS4' hS4'' hS5 hS6 oS7 hS7 kS7 hS7' hS7'' hS8 hS9 esS10 nS10 hS10 hS10' hS11 hS12 hS13 esS14 nS14 hS14 hS14' hS15 hS16 hS17 hS18 hS19 hS20 hS21 hS22 hS23 hS24 hS25 hS26 gS1 gS2 gS3 gS4 gS5 gS6)
  k_with "mine statS" => (rename Stat _ _ _ => SS; refine Stat.use SS ?_; intro hS1 hS2 hS3 oS4 hS4 kS4 hS4' hS4'' hS5 hS6 oS7 hS7 kS7 hS7' hS7'' hS8 hS9 esS10 nS10 hS10 hS10' hS11 hS12 hS13 esS14 nS14 hS14 hS14' hS15 hS16 hS17 hS18 hS19 hS20 hS21 hS22 hS23 hS24 hS25 hS26 gS1 gS2 gS3 gS4 gS5 gS6)
  k_with "mine dyn" => (rename Rep _ _ _ _ => RR; refine Rep.dyn RR ?_; intro jS1 odS jS2 kdS jS2' jS2'' o0S jS3 k0S jS3' jS3'' o1S jS4 k1S jS4' jS4'')
  k_with "mine fr" => (intro z q1 q2; (try dsimp only); first | (rw [if_neg q1, q2]; rfl) | (have q3 := q2; simp only [List.contains_cons, List.contains_nil, Bool.or_false, Bool.or_eq_false_iff, beq_eq_false_iff_ne, ne_eq] at q3; simp only [q1, q2, q3, if_false, List.contains_nil, Bool.false_eq_true]))
  k_with "mine frw" => (intro z q2; (try dsimp only); have q3 := q2; simp only [List.contains_cons, List.contains_nil, Bool.or_false, Bool.or_eq_false_iff, beq_eq_false_iff_ne, ne_eq] at q3; simp only [q2, q3, if_false, List.contains_nil, Bool.false_eq_true])
  k_with "k_handed" => exact flat_handed (by assumption)
  k_with "k_get" => assumption
  k_with "execs cons" => (k_here; first | k_gentoks | (refine execsG ?_; intro Q' hn hr))
  k_with "k_mem" => (change (_ : Addr × Obj) ∈ (_ : List (Addr × Obj)); ktr_member)
  trivial
-- 96_arms
section
example : True := by
  k_with "k_mem" => (change (_ : Addr × Obj) ∈ (_ : List (Addr × Obj)); first | ktr_member | exact Kp.cellm (by assumption))
  trivial
noncomputable def g_stF : G7 g_stE.Pz1 := by
  apply G7.mk
  case impz =>
    intro hp1 hp2 hp3 hp4 hp5 hp6 hp7
    unfold g_stE
    dsimp only
    k_fill
    set_option tactic.hygienic false in intros
    rename Fr _ _ _ _ => F9
    refine arm_cut (B := BB) (I := I) (it := it) (c := psA pcell) (oc := psO pcell) (i := i) (w := w) F9 ?arm9 ?rest9
    case arm9 =>
      have hf5 : σ.Fits 100 := G1.fits.mono (by omega)
      have hnum := symA_at R5.st hnm
      repeat' ((fail_if_success (with_reducible show wpAny _ _ (execs (Stmt.Assign _ _ ⟨423, _, _, _⟩ :: _) _) _ _ _)); (fail_if_success (with_reducible show wpAny _ _ (execs (Stmt.Expr _ ⟨426, _, _, _⟩ :: _) _) _ _ _)); (fail_if_success (with_reducible show wpAny _ _ (execs (Stmt.Assign _ _ ⟨429, _, _, _⟩ :: _) _) _ _ _)); (fail_if_success (with_reducible show wpAny _ _ (execs (Stmt.If _ _ _ ⟨434, _, _, _⟩ :: _) _) _ _ _)); (fail_if_success (with_reducible show wpAny _ _ (execs (Stmt.Expr _ ⟨438, _, _, _⟩ :: _) _) _ _ _)); (fail_if_success (with_reducible show wpAny _ _ (execs (Stmt.Assign _ _ ⟨441, _, _, _⟩ :: _) _) _ _ _)); walk_at "mine step")
      · -- way == 0
        repeat' ((fail_if_success (with_reducible show wpAny _ _ (subscriptTail _ _ _ _) _ _ _)); walk_at "mine step")
        (rename_i tk_7 Q'_15 hn_15 hr_18 a_4 tk_8 Q'_16 hn_16 hr_19 h'_47 F' N'; revert d kwd w qA qA_1 mg mb fa o pm doc w_1 w_2 w_3 w_4 w_5 hlay0 hr_1 hl2 w_6 w_7 w_8 w_9 w_10 hcond'_1 qA_2 qA_3 w_11 Q'_1 g'_2 L' h'_7 tk_1 Q'_2 ws' h'_1 g'_1 ys h'_2 tk'_2 Q'_3 h'_3 tk'_1 t' h'_4 h'_5 h'_6 se ce ws0 Q'_4 wd ob obd orw onm cc ccx fn pl va vd dd au pe ba bd bv o1 o2 o3 o4 o5 o6 o7 t1 t2 t3 t4 t5 t6 t7 t8 t9 u1 u2 u3 u4 u5 u6 u7 u8 u9 h'_8 tk'_3 h'_9 o' Q'_5 b0 e0 tx0 mk0 ls0 a0_0 a1_0 a2_0 a3_0 a4_0 b4_0 a5_0 b5_0 a6_0 b6_0 a7_0 a8_0 a9_0 a10_0 b10_0 a11_0 b11_0 a12_0 b12_0 a13_0 a14_0 a15_0 a16_0 a17_0 a18_0 a19_0 h'_10 tk'_4 b1 e1 tx1 mk1 ls1 a0_1 a1_1 a2_1 a3_1 a4_1 b4_1 a5_1 b5_1 a6_1 b6_1 a7_1 a8_1 a9_1 a10_1 b10_1 a11_1 b11_1 a12_1 b12_1 a13_1 a14_1 a15_1 a16_1 a17_1 a18_1 a19_1 h'_11 tk'_5 h'_13 h'_12 tk_2 Q'_6 i' it' h'_14 tk'_6 Q'_7 lo0 f0 v0 ov0 tl0 h'_15 tk'_7 h'_16 tk_3 it'_1 h'_17 tk'_8 Q'_8 lo1 f1 v1 ov1 tl1 h'_20 tk'_10 h'_18 tk_4 h'_19 tk'_9 nx Q'_9 D' h'_21 g' I' oI' C' oC' D'_1 m' h'_22 tk'_11 E' sy0 z0 oo0 kv0 x10 x20 x30 x40 h'_23 tk'_12 I'_1 oI'_1 C'_1 oC'_1 D'_2 m'_1 h'_24 tk'_13 E'_1 sy1 z1 oo1 kv1 x11 x21 x31 x41 h'_25 tk'_14 I'_2 oI'_2 C'_2 oC'_2 D'_3 m'_2 h'_26 tk'_15 E'_2 sy2 z2 oo2 kv2 x12 x22 x32 x42 h'_28 tk'_17 h'_27 tk'_16 Q'_10 sd sr ts1 ts2 h'_38 tk'_18 h'_29 tk_6 Q'_11 h'_30 o_1 a_2 hc0' h'_31 D'_4 h'_32 h'_33 h'_34 h'_35 h'_36 ro nz A Q'_12 h'_37 tk_5 qE qE_1 qE_2 i t u c nx1 I it h₁ tk₁ σ BB nx2 Q'_13 way tway h'_39 tk'_19 nx3 nm tnm h'_40 tk'_20 nx4 vz tvz h' tk' nx5 h'_41 nm' h'_42 h'_43 h'_44 h'_45 Q'_14 h'_46 tk_7 Q'_15 tk_8 Q'_16 h'_47 tk Q'; (repeat revert ‹_›); intro hp1 hp2 hp3 hp4 hp5 hp6 hp7; exact hp1.out)
      · (rename_i tk_7 Q'_15 hn_15 hr_18 a_4 a_6; revert d kwd w qA qA_1 mg mb fa o pm doc w_1 w_2 w_3 w_4 w_5 hlay0 hr_1 hl2 w_6 w_7 w_8 w_9 w_10 hcond'_1 qA_2 qA_3 w_11 Q'_1 g'_2 L' h'_7 tk_1 Q'_2 ws' h'_1 g'_1 ys h'_2 tk'_2 Q'_3 h'_3 tk'_1 t' h'_4 h'_5 h'_6 se ce ws0 Q'_4 wd ob obd orw onm cc ccx fn pl va vd dd au pe ba bd bv o1 o2 o3 o4 o5 o6 o7 t1 t2 t3 t4 t5 t6 t7 t8 t9 u1 u2 u3 u4 u5 u6 u7 u8 u9 h'_8 tk'_3 h'_9 o' Q'_5 b0 e0 tx0 mk0 ls0 a0_0 a1_0 a2_0 a3_0 a4_0 b4_0 a5_0 b5_0 a6_0 b6_0 a7_0 a8_0 a9_0 a10_0 b10_0 a11_0 b11_0 a12_0 b12_0 a13_0 a14_0 a15_0 a16_0 a17_0 a18_0 a19_0 h'_10 tk'_4 b1 e1 tx1 mk1 ls1 a0_1 a1_1 a2_1 a3_1 a4_1 b4_1 a5_1 b5_1 a6_1 b6_1 a7_1 a8_1 a9_1 a10_1 b10_1 a11_1 b11_1 a12_1 b12_1 a13_1 a14_1 a15_1 a16_1 a17_1 a18_1 a19_1 h'_11 tk'_5 h'_13 h'_12 tk_2 Q'_6 i' it' h'_14 tk'_6 Q'_7 lo0 f0 v0 ov0 tl0 h'_15 tk'_7 h'_16 tk_3 it'_1 h'_17 tk'_8 Q'_8 lo1 f1 v1 ov1 tl1 h'_20 tk'_10 h'_18 tk_4 h'_19 tk'_9 nx Q'_9 D' h'_21 g' I' oI' C' oC' D'_1 m' h'_22 tk'_11 E' sy0 z0 oo0 kv0 x10 x20 x30 x40 h'_23 tk'_12 I'_1 oI'_1 C'_1 oC'_1 D'_2 m'_1 h'_24 tk'_13 E'_1 sy1 z1 oo1 kv1 x11 x21 x31 x41 h'_25 tk'_14 I'_2 oI'_2 C'_2 oC'_2 D'_3 m'_2 h'_26 tk'_15 E'_2 sy2 z2 oo2 kv2 x12 x22 x32 x42 h'_28 tk'_17 h'_27 tk'_16 Q'_10 sd sr ts1 ts2 h'_38 tk'_18 h'_29 tk_6 Q'_11 h'_30 o_1 a_2 hc0' h'_31 D'_4 h'_32 h'_33 h'_34 h'_35 h'_36 ro nz A Q'_12 h'_37 tk_5 qE qE_1 qE_2 i t u c nx1 I it h₁ tk₁ σ BB nx2 Q'_13 way tway h'_39 tk'_19 nx3 nm tnm h'_40 tk'_20 nx4 vz tvz h' tk' nx5 h'_41 nm' h'_42 h'_43 h'_44 h'_45 Q'_14 h'_46 tk_7 Q'_15 tk Q'; (repeat revert ‹_›); intro hp1 hp2 hp3 hp4 hp5 hp6 hp7; exact hp2.out)
      · (rename_i hc0' F' N' tk_7 Q'_15 hn_15 hr_18 a_4 tk_8 Q'_16 hn_16 hr_19 a_6 h'_47 a_7 a_8 hk'_1 x' x'_1 nm'_1 a_10; revert d kwd w qA qA_1 mg mb fa o pm doc w_1 w_2 w_3 w_4 w_5 hlay0 hr_1 hl2 w_6 w_7 w_8 w_9 w_10 hcond'_1 qA_2 qA_3 w_11 Q'_1 g'_2 L' h'_7 tk_1 Q'_2 ws' h'_1 g'_1 ys h'_2 tk'_2 Q'_3 h'_3 tk'_1 t' h'_4 h'_5 h'_6 se ce ws0 Q'_4 wd ob obd orw onm cc ccx fn pl va vd dd au pe ba bd bv o1 o2 o3 o4 o5 o6 o7 t1 t2 t3 t4 t5 t6 t7 t8 t9 u1 u2 u3 u4 u5 u6 u7 u8 u9 h'_8 tk'_3 h'_9 o' Q'_5 b0 e0 tx0 mk0 ls0 a0_0 a1_0 a2_0 a3_0 a4_0 b4_0 a5_0 b5_0 a6_0 b6_0 a7_0 a8_0 a9_0 a10_0 b10_0 a11_0 b11_0 a12_0 b12_0 a13_0 a14_0 a15_0 a16_0 a17_0 a18_0 a19_0 h'_10 tk'_4 b1 e1 tx1 mk1 ls1 a0_1 a1_1 a2_1 a3_1 a4_1 b4_1 a5_1 b5_1 a6_1 b6_1 a7_1 a8_1 a9_1 a10_1 b10_1 a11_1 b11_1 a12_1 b12_1 a13_1 a14_1 a15_1 a16_1 a17_1 a18_1 a19_1 h'_11 tk'_5 h'_13 h'_12 tk_2 Q'_6 i' it' h'_14 tk'_6 Q'_7 lo0 f0 v0 ov0 tl0 h'_15 tk'_7 h'_16 tk_3 it'_1 h'_17 tk'_8 Q'_8 lo1 f1 v1 ov1 tl1 h'_20 tk'_10 h'_18 tk_4 h'_19 tk'_9 nx Q'_9 D' h'_21 g' I' oI' C' oC' D'_1 m' h'_22 tk'_11 E' sy0 z0 oo0 kv0 x10 x20 x30 x40 h'_23 tk'_12 I'_1 oI'_1 C'_1 oC'_1 D'_2 m'_1 h'_24 tk'_13 E'_1 sy1 z1 oo1 kv1 x11 x21 x31 x41 h'_25 tk'_14 I'_2 oI'_2 C'_2 oC'_2 D'_3 m'_2 h'_26 tk'_15 E'_2 sy2 z2 oo2 kv2 x12 x22 x32 x42 h'_28 tk'_17 h'_27 tk'_16 Q'_10 sd sr ts1 ts2 h'_38 tk'_18 h'_29 tk_6 Q'_11 h'_30 o_1 a_2 hc0' h'_31 D'_4 h'_32 h'_33 h'_34 h'_35 h'_36 ro nz A Q'_12 h'_37 tk_5 qE qE_1 qE_2 i t u c nx1 I it h₁ tk₁ σ BB nx2 Q'_13 way tway h'_39 tk'_19 nx3 nm tnm h'_40 tk'_20 nx4 vz tvz h' tk' nx5 h'_41 nm' h'_42 h'_43 h'_44 h'_45 Q'_14 h'_46 tk_7 Q'_15 tk_8 Q'_16 tk Q' h'_47 nm'_1; (repeat revert ‹_›); intro hp1 hp2 hp3 hp4 hp5 hp6 hp7; exact hp3.out)
      · (rename_i hc0' F' N' tk_7 Q'_15 hn_15 hr_18 a_4 tk_8 Q'_16 hn_16 hr_19 a_6 tk_9 Q'_17 hn_17 hr_20 h'_47 a_7 a_8 hk'_1 x' x'_1 nm'_1 a_10 a_11; revert d kwd w qA qA_1 mg mb fa o pm doc w_1 w_2 w_3 w_4 w_5 hlay0 hr_1 hl2 w_6 w_7 w_8 w_9 w_10 hcond'_1 qA_2 qA_3 w_11 Q'_1 g'_2 L' h'_7 tk_1 Q'_2 ws' h'_1 g'_1 ys h'_2 tk'_2 Q'_3 h'_3 tk'_1 t' h'_4 h'_5 h'_6 se ce ws0 Q'_4 wd ob obd orw onm cc ccx fn pl va vd dd au pe ba bd bv o1 o2 o3 o4 o5 o6 o7 t1 t2 t3 t4 t5 t6 t7 t8 t9 u1 u2 u3 u4 u5 u6 u7 u8 u9 h'_8 tk'_3 h'_9 o' Q'_5 b0 e0 tx0 mk0 ls0 a0_0 a1_0 a2_0 a3_0 a4_0 b4_0 a5_0 b5_0 a6_0 b6_0 a7_0 a8_0 a9_0 a10_0 b10_0 a11_0 b11_0 a12_0 b12_0 a13_0 a14_0 a15_0 a16_0 a17_0 a18_0 a19_0 h'_10 tk'_4 b1 e1 tx1 mk1 ls1 a0_1 a1_1 a2_1 a3_1 a4_1 b4_1 a5_1 b5_1 a6_1 b6_1 a7_1 a8_1 a9_1 a10_1 b10_1 a11_1 b11_1 a12_1 b12_1 a13_1 a14_1 a15_1 a16_1 a17_1 a18_1 a19_1 h'_11 tk'_5 h'_13 h'_12 tk_2 Q'_6 i' it' h'_14 tk'_6 Q'_7 lo0 f0 v0 ov0 tl0 h'_15 tk'_7 h'_16 tk_3 it'_1 h'_17 tk'_8 Q'_8 lo1 f1 v1 ov1 tl1 h'_20 tk'_10 h'_18 tk_4 h'_19 tk'_9 nx Q'_9 D' h'_21 g' I' oI' C' oC' D'_1 m' h'_22 tk'_11 E' sy0 z0 oo0 kv0 x10 x20 x30 x40 h'_23 tk'_12 I'_1 oI'_1 C'_1 oC'_1 D'_2 m'_1 h'_24 tk'_13 E'_1 sy1 z1 oo1 kv1 x11 x21 x31 x41 h'_25 tk'_14 I'_2 oI'_2 C'_2 oC'_2 D'_3 m'_2 h'_26 tk'_15 E'_2 sy2 z2 oo2 kv2 x12 x22 x32 x42 h'_28 tk'_17 h'_27 tk'_16 Q'_10 sd sr ts1 ts2 h'_38 tk'_18 h'_29 tk_6 Q'_11 h'_30 o_1 a_2 hc0' h'_31 D'_4 h'_32 h'_33 h'_34 h'_35 h'_36 ro nz A Q'_12 h'_37 tk_5 qE qE_1 qE_2 i t u c nx1 I it h₁ tk₁ σ BB nx2 Q'_13 way tway h'_39 tk'_19 nx3 nm tnm h'_40 tk'_20 nx4 vz tvz h' tk' nx5 h'_41 nm' h'_42 h'_43 h'_44 h'_45 Q'_14 h'_46 tk_7 Q'_15 tk_8 Q'_16 tk_9 Q'_17 h'_47 nm'_1 tk Q'; (repeat revert ‹_›); intro hp1 hp2 hp3 hp4 hp5 hp6 hp7; exact hp4.out)
      · (rename_i hc0' F' N' tk_7 Q'_15 hn_15 hr_18 a_4 tk_8 Q'_16 hn_16 hr_19 a_6 tk_9 Q'_17 hn_17 hr_20 h'_47 a_7 a_8 hk'_1 x' x'_1 nm'_1 a_10 tk_10 Q'_18 hn_18 hr_21 a_11 a_12; revert d kwd w qA qA_1 mg mb fa o pm doc w_1 w_2 w_3 w_4 w_5 hlay0 hr_1 hl2 w_6 w_7 w_8 w_9 w_10 hcond'_1 qA_2 qA_3 w_11 Q'_1 g'_2 L' h'_7 tk_1 Q'_2 ws' h'_1 g'_1 ys h'_2 tk'_2 Q'_3 h'_3 tk'_1 t' h'_4 h'_5 h'_6 se ce ws0 Q'_4 wd ob obd orw onm cc ccx fn pl va vd dd au pe ba bd bv o1 o2 o3 o4 o5 o6 o7 t1 t2 t3 t4 t5 t6 t7 t8 t9 u1 u2 u3 u4 u5 u6 u7 u8 u9 h'_8 tk'_3 h'_9 o' Q'_5 b0 e0 tx0 mk0 ls0 a0_0 a1_0 a2_0 a3_0 a4_0 b4_0 a5_0 b5_0 a6_0 b6_0 a7_0 a8_0 a9_0 a10_0 b10_0 a11_0 b11_0 a12_0 b12_0 a13_0 a14_0 a15_0 a16_0 a17_0 a18_0 a19_0 h'_10 tk'_4 b1 e1 tx1 mk1 ls1 a0_1 a1_1 a2_1 a3_1 a4_1 b4_1 a5_1 b5_1 a6_1 b6_1 a7_1 a8_1 a9_1 a10_1 b10_1 a11_1 b11_1 a12_1 b12_1 a13_1 a14_1 a15_1 a16_1 a17_1 a18_1 a19_1 h'_11 tk'_5 h'_13 h'_12 tk_2 Q'_6 i' it' h'_14 tk'_6 Q'_7 lo0 f0 v0 ov0 tl0 h'_15 tk'_7 h'_16 tk_3 it'_1 h'_17 tk'_8 Q'_8 lo1 f1 v1 ov1 tl1 h'_20 tk'_10 h'_18 tk_4 h'_19 tk'_9 nx Q'_9 D' h'_21 g' I' oI' C' oC' D'_1 m' h'_22 tk'_11 E' sy0 z0 oo0 kv0 x10 x20 x30 x40 h'_23 tk'_12 I'_1 oI'_1 C'_1 oC'_1 D'_2 m'_1 h'_24 tk'_13 E'_1 sy1 z1 oo1 kv1 x11 x21 x31 x41 h'_25 tk'_14 I'_2 oI'_2 C'_2 oC'_2 D'_3 m'_2 h'_26 tk'_15 E'_2 sy2 z2 oo2 kv2 x12 x22 x32 x42 h'_28 tk'_17 h'_27 tk'_16 Q'_10 sd sr ts1 ts2 h'_38 tk'_18 h'_29 tk_6 Q'_11 h'_30 o_1 a_2 hc0' h'_31 D'_4 h'_32 h'_33 h'_34 h'_35 h'_36 ro nz A Q'_12 h'_37 tk_5 qE qE_1 qE_2 i t u c nx1 I it h₁ tk₁ σ BB nx2 Q'_13 way tway h'_39 tk'_19 nx3 nm tnm h'_40 tk'_20 nx4 vz tvz h' tk' nx5 h'_41 nm' h'_42 h'_43 h'_44 h'_45 Q'_14 h'_46 tk_7 Q'_15 tk_8 Q'_16 tk_9 Q'_17 h'_47 nm'_1 tk_10 Q'_18 tk Q'; (repeat revert ‹_›); intro hp1 hp2 hp3 hp4 hp5 hp6 hp7; exact hp5.out)
      · (rename_i hc0' F' N' tk_7 Q'_15 hn_15 hr_18 a_4 tk_8 Q'_16 hn_16 hr_19 a_6 tk_9 Q'_17 hn_17 hr_20 h'_47 a_7 a_8 hk'_1 x' x'_1 nm'_1 a_10 tk_10 Q'_18 hn_18 hr_21 a_11 tk_11 Q'_19 hn_19 hr_22 a_12 a_13; revert d kwd w qA qA_1 mg mb fa o pm doc w_1 w_2 w_3 w_4 w_5 hlay0 hr_1 hl2 w_6 w_7 w_8 w_9 w_10 hcond'_1 qA_2 qA_3 w_11 Q'_1 g'_2 L' h'_7 tk_1 Q'_2 ws' h'_1 g'_1 ys h'_2 tk'_2 Q'_3 h'_3 tk'_1 t' h'_4 h'_5 h'_6 se ce ws0 Q'_4 wd ob obd orw onm cc ccx fn pl va vd dd au pe ba bd bv o1 o2 o3 o4 o5 o6 o7 t1 t2 t3 t4 t5 t6 t7 t8 t9 u1 u2 u3 u4 u5 u6 u7 u8 u9 h'_8 tk'_3 h'_9 o' Q'_5 b0 e0 tx0 mk0 ls0 a0_0 a1_0 a2_0 a3_0 a4_0 b4_0 a5_0 b5_0 a6_0 b6_0 a7_0 a8_0 a9_0 a10_0 b10_0 a11_0 b11_0 a12_0 b12_0 a13_0 a14_0 a15_0 a16_0 a17_0 a18_0 a19_0 h'_10 tk'_4 b1 e1 tx1 mk1 ls1 a0_1 a1_1 a2_1 a3_1 a4_1 b4_1 a5_1 b5_1 a6_1 b6_1 a7_1 a8_1 a9_1 a10_1 b10_1 a11_1 b11_1 a12_1 b12_1 a13_1 a14_1 a15_1 a16_1 a17_1 a18_1 a19_1 h'_11 tk'_5 h'_13 h'_12 tk_2 Q'_6 i' it' h'_14 tk'_6 Q'_7 lo0 f0 v0 ov0 tl0 h'_15 tk'_7 h'_16 tk_3 it'_1 h'_17 tk'_8 Q'_8 lo1 f1 v1 ov1 tl1 h'_20 tk'_10 h'_18 tk_4 h'_19 tk'_9 nx Q'_9 D' h'_21 g' I' oI' C' oC' D'_1 m' h'_22 tk'_11 E' sy0 z0 oo0 kv0 x10 x20 x30 x40 h'_23 tk'_12 I'_1 oI'_1 C'_1 oC'_1 D'_2 m'_1 h'_24 tk'_13 E'_1 sy1 z1 oo1 kv1 x11 x21 x31 x41 h'_25 tk'_14 I'_2 oI'_2 C'_2 oC'_2 D'_3 m'_2 h'_26 tk'_15 E'_2 sy2 z2 oo2 kv2 x12 x22 x32 x42 h'_28 tk'_17 h'_27 tk'_16 Q'_10 sd sr ts1 ts2 h'_38 tk'_18 h'_29 tk_6 Q'_11 h'_30 o_1 a_2 hc0' h'_31 D'_4 h'_32 h'_33 h'_34 h'_35 h'_36 ro nz A Q'_12 h'_37 tk_5 qE qE_1 qE_2 i t u c nx1 I it h₁ tk₁ σ BB nx2 Q'_13 way tway h'_39 tk'_19 nx3 nm tnm h'_40 tk'_20 nx4 vz tvz h' tk' nx5 h'_41 nm' h'_42 h'_43 h'_44 h'_45 Q'_14 h'_46 tk_7 Q'_15 tk_8 Q'_16 tk_9 Q'_17 h'_47 nm'_1 tk_10 Q'_18 tk_11 Q'_19 tk Q'; (repeat revert ‹_›); intro hp1 hp2 hp3 hp4 hp5 hp6 hp7; exact hp6.out)
      · -- nothing
        exact ArmPost.intro (by assumption) (News.tail (by assumption)) R5 kp5 (G1.later) H1 hc1 rfl (fun _ _ _ _ => rfl)
    case rest9 => (revert d kwd w qA qA_1 mg mb fa o pm doc w_1 w_2 w_3 w_4 w_5 hlay0 hr_1 hl2 w_6 w_7 w_8 w_9 w_10 hcond'_1 qA_2 qA_3 w_11 Q'_1 g'_2 L' h'_7 tk_1 Q'_2 ws' h'_1 g'_1 ys h'_2 tk'_2 Q'_3 h'_3 tk'_1 t' h'_4 h'_5 h'_6 se ce ws0 Q'_4 wd ob obd orw onm cc ccx fn pl va vd dd au pe ba bd bv o1 o2 o3 o4 o5 o6 o7 t1 t2 t3 t4 t5 t6 t7 t8 t9 u1 u2 u3 u4 u5 u6 u7 u8 u9 h'_8 tk'_3 h'_9 o' Q'_5 b0 e0 tx0 mk0 ls0 a0_0 a1_0 a2_0 a3_0 a4_0 b4_0 a5_0 b5_0 a6_0 b6_0 a7_0 a8_0 a9_0 a10_0 b10_0 a11_0 b11_0 a12_0 b12_0 a13_0 a14_0 a15_0 a16_0 a17_0 a18_0 a19_0 h'_10 tk'_4 b1 e1 tx1 mk1 ls1 a0_1 a1_1 a2_1 a3_1 a4_1 b4_1 a5_1 b5_1 a6_1 b6_1 a7_1 a8_1 a9_1 a10_1 b10_1 a11_1 b11_1 a12_1 b12_1 a13_1 a14_1 a15_1 a16_1 a17_1 a18_1 a19_1 h'_11 tk'_5 h'_13 h'_12 tk_2 Q'_6 i' it' h'_14 tk'_6 Q'_7 lo0 f0 v0 ov0 tl0 h'_15 tk'_7 h'_16 tk_3 it'_1 h'_17 tk'_8 Q'_8 lo1 f1 v1 ov1 tl1 h'_20 tk'_10 h'_18 tk_4 h'_19 tk'_9 nx Q'_9 D' h'_21 g' I' oI' C' oC' D'_1 m' h'_22 tk'_11 E' sy0 z0 oo0 kv0 x10 x20 x30 x40 h'_23 tk'_12 I'_1 oI'_1 C'_1 oC'_1 D'_2 m'_1 h'_24 tk'_13 E'_1 sy1 z1 oo1 kv1 x11 x21 x31 x41 h'_25 tk'_14 I'_2 oI'_2 C'_2 oC'_2 D'_3 m'_2 h'_26 tk'_15 E'_2 sy2 z2 oo2 kv2 x12 x22 x32 x42 h'_28 tk'_17 h'_27 tk'_16 Q'_10 sd sr ts1 ts2 h'_38 tk'_18 h'_29 tk_6 Q'_11 h'_30 o_1 a_2 hc0' h'_31 D'_4 h'_32 h'_33 h'_34 h'_35 h'_36 ro nz A Q'_12 h'_37 tk_5 qE qE_1 qE_2 i t u c nx1 I it h₁ tk₁ σ BB nx2 Q'_13 way tway h'_39 tk'_19 nx3 nm tnm h'_40 tk'_20 nx4 vz tvz h' tk' nx5 h'_41 nm' h'_42 h'_43 h'_44 h'_45 Q'_14 h'_46 tk Q'; (repeat revert ‹_›); intro hp1 hp2 hp3 hp4 hp5 hp6 hp7; exact hp7.out)
end

example : True := by
  k_with_none
  k_with "mine c" => with_reducible first | assumption | exact And.left (by assumption) | exact And.left (And.right (by assumption)) | exact And.left (And.right (And.right (by assumption))) | exact And.left (And.right (And.right (And.right (by assumption)))) | exact And.left (And.right (And.right (And.right (And.right (by assumption))))) | exact And.left (And.right (And.right (And.right (And.right (And.right (by assumption)))))) | exact And.left (And.right (And.right (And.right (And.right (And.right (And.right (by assumption))))))) | exact And.left (And.right (And.right (And.right (And.right (And.right (And.right (And.right (by assumption)))))))) | exact And.left (And.right (And.right (And.right (And.right (And.right (And.right (And.right (And.right (by assumption))))))))) | exact And.left (And.right (And.right (And.right (And.right (And.right (And.right (And.right (And.right (And.right (by assumption)))))))))) | exact And.left (And.right (And.right (And.right (And.right (And.right (And.right (And.right (And.right (And.right (And.right (by assumption))))))))))) | exact And.left (And.right (And.right (And.right (And.right (And.right (And.right (And.right (And.right (And.right (And.right (And.right (by assumption)))))))))))) | exact And.left (And.right (And.right (And.right (And.right (And.right (And.right (And.right (And.right (And.right (And.right (And.right (And.right (by assumption))))))))))))) | exact And.left (And.right (And.right (And.right (And.right (And.right (And.right (And.right (And.right (And.right (And.right (And.right (And.right (And.right (by assumption)))))))))))))) | exact And.right (by assumption) | exact And.right (And.right (by assumption)) | exact And.right (And.right (And.right (by assumption))) | exact And.right (And.right (And.right (And.right (by assumption)))) | exact And.right (And.right (And.right (And.right (And.right (by assumption))))) | exact And.right (And.right (And.right (And.right (And.right (And.right (by assumption)))))) | exact And.right (And.right (And.right (And.right (And.right (And.right (And.right (by assumption)))))))
  k_with "k_all" => first | assumption | exact fun p hp => Nat.ne_of_lt (tb_ltOf (by assumption) p hp) | exact fun p hp => Nat.ne_of_gt (tb_ltOf (by assumption) p hp) | ((repeat (rename _ ∧ _ => q; cases q)); exact fun p hp => Nat.ne_of_lt (tb_ltOf (by assumption) p hp)) | ((repeat (rename _ ∧ _ => q; cases q)); exact fun p hp => Nat.ne_of_gt (tb_ltOf (by assumption) p hp))
  k_with "mine sub" => (intro p hp; (repeat first | exact hp | refine List.Mem.tail _ ?_))
  k_with "mine opt" => first | assumption | exact isOpt_none | exact isOpt_int _ _
  k_with "mine tk" => first | assumption | exact Mine.tk2 (by walk_at "mine opt") (by walk_at "mine opt")
  k_with "compareOp In ref ref" => (k_here; k_dflt (refine rows_in (by exact Nat.le_of_ble_eq_true rfl) (by k_asm) (by assumption) (by walk_at "mine sub") (by k_mem) (by assumption) (by k_mem) (by walk_at "mine tk") ?_; k_whole))
  k_with "compareOp NotIn ref ref" => (k_here; k_dflt (refine rows_notin (by exact Nat.le_of_ble_eq_true rfl) (by k_asm) (by assumption) (by walk_at "mine sub") (by k_mem) (by assumption) (by k_mem) (by walk_at "mine tk") ?_; k_whole))
  k_with "call builtin:dict.get" => (k_here; k_dflt (refine rows_get (by exact Nat.le_of_ble_eq_true rfl) (by k_asm) (by assumption) (by walk_at "mine sub") (by k_mem) (by assumption) (by k_mem) (by walk_at "mine tk") ?_; k_whole); intro v' hv')
  k_with "getMethod ref" => (k_here; (with_reducible show wpAny _ _ (getMethod (Value.ref _) _ _) _ _ _); k_dflt (refine rows_meth (by first | exact PySem.F.slot_dict_get | exact PySem.F.slot_dict_pop) (by rfl) (by k_asm) (by assumption) (by walk_at "mine sub") (by k_mem) (by assumption) ?_; k_whole))
  k_with "subscriptTail" => (k_here; (with_reducible show wpAny _ _ (subscriptTail _ _ (Value.ref _) (Value.ref _)) _ _ _); k_dflt (refine rows_itemS (by exact Nat.le_of_ble_eq_true rfl) (by k_asm) (by assumption) (by walk_at "mine sub") (by k_mem) (by assumption) (by k_mem) (by walk_at "mine tk") (by assumption) ?_ (by with_unfolding_all rfl) (by (intro _; with_unfolding_all rfl)); k_whole); intro v' d' hl' hv')
  k_with "call builtin:len" => (k_here; (with_reducible show wpAny _ _ (call (Value.builtin "len") [Value.ref _]) _ _ _); k_dflt (refine lenL (by k_asm) (by k_mem) (by omega) ?_; k_whole); intro t' tk')
  k_with "call builtin:dict.pop" => (k_here; (with_reducible show wpAny _ _ (call (Value.builtin _) [Value.ref _, Value.int _ _]) _ _ _); k_dflt (refine popI (by k_asm) (by k_asm) (by k_updF) (by assumption) (by assumption) (by assumption) (by omega) ?_; k_whole); intro h' o' v' kvs' D' F' N' hd' hf' hn' hl'; (try dsimp only at N'))
  k_with "setItem ref int" => (k_here; k_dflt (refine setItem_K PyProof.V.same_int (intKind_is _ _ _ _) (by k_flat) (by k_asm) (by k_asm) (by k_updF) (by assumption) (by assumption) ?_ (by (rw [sizeLine_eq]; omega)); ); intro h' o' F' N' hd' hf'; (try dsimp only at N'))
  k_with "call builtin:list.pop" => (k_here; k_dflt (refine pop0 (by k_asm) (by k_asm) (by k_upd) (by (have hq := IntsAre.length (by assumption); rw [sizeLine_eq]; simp only [List.length_cons] at *; omega)) ?_; k_whole); intro h' F' N'; (try dsimp only [List.nil_append, List.cons_append] at N'))
  k_with "call builtin:list.append" => (k_here; (with_reducible show wpAny _ _ (call (Value.builtin _) [Value.ref _, _]) _ _ _); k_dflt (refine appF (by k_asm) (by k_asm) (by first | omega | (simp only [List.length_append, List.length_cons, List.length_nil]; omega)) (by k_upd) ?_; k_whole); intro h' F' N'; (try dsimp only [List.nil_append, List.cons_append] at N'))
  k_with "getItem ref int" => (k_here; k_dflt (refine getItem_some PyProof.V.same_int (intKind_is _ _ _ _) (by k_tabat) (by assumption) ?_; k_whole); intro v' d' hl' hv')
  k_with "mine stat" => (rename Rep _ _ _ _ => RR; refine Rep.use RR ?_; intro hS1 hS2 hS3 oS4 hS4 kS4 hS4' hS4'' hS5 hS6 oS7 hS7 kS7 hS7' hS7'' hS8 hS9 esS10 nS10 hS10 hS10' hS11 hS12 hS13 esS14 nS14 hS14 hS14' hS15 hS16 hS17 hS18 hS19 hS20 hS21 hS22 hS23 hS24 hS25 hS26 gS1 gS2 gS3 gS4 gS5 gS6)
  k_with "mine statS" => (rename Stat _ _ _ => SS; refine Stat.use SS ?_; intro hS1 hS2 hS3 oS4 hS4 kS4 hS4' hS4'' hS5 hS6 oS7 hS7 kS7 hS7' hS7'' hS8 hS9 esS10 nS10 hS10 hS10' hS11 hS12 hS13 esS14 nS14 hS14 hS14' hS15 hS16 hS17 hS18 hS19 hS20 hS21 hS22 hS23 hS24 hS25 hS26 gS1 gS2 gS3 gS4 gS5 gS6)
  k_with "mine dyn" => (rename Rep _ _ _ _ => RR; refine Rep.dyn RR ?_; intro jS1 odS jS2 kdS jS2' jS2'' o0S jS3 k0S jS3' jS3'' o1S jS4 k1S jS4' jS4'')
  k_with "mine fr" => (intro z q1 q2; (try dsimp only); first | (rw [if_neg q1, q2]; rfl) | (have q3 := q2; simp only [List.contains_cons, List.contains_nil, Bool.or_false, Bool.or_eq_false_iff, beq_eq_false_iff_ne, ne_eq] at q3; simp only [q1, q2, q3, if_false, List.contains_nil, Bool.false_eq_true]))
  k_with "mine frw" => (intro z q2; (try dsimp only); have q3 := q2; simp only [List.contains_cons, List.contains_nil, Bool.or_false, Bool.or_eq_false_iff, beq_eq_false_iff_ne, ne_eq] at q3; simp only [q2, q3, if_false, List.contains_nil, Bool.false_eq_true])
  k_with "k_handed" => exact flat_handed (by assumption)
  k_with "k_get" => assumption
  k_with "execs cons" => (k_here; first | k_gentoks | (refine execsG ?_; intro Q' hn hr))
  k_with "k_mem" => (change (_ : Addr × Obj) ∈ (_ : List (Addr × Obj)); ktr_member)
  trivial
-- 97_a0
section
example : True := by
  k_with "k_mem" => (change (_ : Addr × Obj) ∈ (_ : List (Addr × Obj)); first | ktr_member | exact Kp.cellm (by assumption))
  trivial
example : True := by
  k_with "mine now" =>
    unfold g_stF
    dsimp only
    k_fill
    set_option tactic.hygienic false in intros
    have hcu : vz.fmod 2 = 0 ∨ vz.fmod 2 = 1 := by
      have h1 := Int.fmod_nonneg_of_pos vz (show (0:Int) < 2 by decide)
      have h2 := Int.fmod_lt_of_pos vz (show (0:Int) < 2 by decide)
      omega
    k_here
    refine' buf_item ?zN7 R5 hcu ?_ ?zs ?zg
    case zN7 => k_asm
    case zs => with_unfolding_all rfl
    case zg => (intro _; with_unfolding_all rfl)
    have hfp := muts1 (A := BB) (x := BB.wd) (by simp [Ad.muts])
    repeat' ((fail_if_success (with_reducible show wpAny _ _ (setAttr _ _ _) _ _ _)); walk_at "mine step")
    rename News _ _ _ _ => N9
    have NN := News.cons1 (N9 _ R5.wd) (butL_news (fp := [BB.wd]) N9)
    have hx := butL_ne (fp := [BB.wd]) (nx := nx5) (a := BB.wd) (.head _)
    have j2 := PS.mb hfp R5.st.wo
    clear N9
    repeat' (walk_at "mine step")
    rename News _ _ _ _ => N9
    have hs : ∀ p ∈ butL [BB.wd] nx5, p ∈ (BB.wd, dictOf (wE w BB (curV BB (some (vz.fmod 2)))) 7) :: butL [BB.wd] nx5 := fun p hp => .tail _ hp
    exact ArmPost.intro (nx' := (BB.wd, dictOf (wE w BB (curV BB (some (vz.fmod 2)))) 7) :: butL [BB.wd] nx5) (by assumption) N9 (R5.upC hs (.head _)) (kp5.ext (Ext.of_but hs hfp)) (G1.go hcu) H1.go (isOpt_int _ _) rfl (fun y q _ _ => if_neg q)
  trivial
theorem pa0 : g_stF.Pz1 := by
  refine GoalP.out ?_
  simp (disch := k_dflt (walk_at "mine now")) only [↓goalP_of]

end

example : True := by
  k_with_none
  k_with "mine c" => with_reducible first | assumption | exact And.left (by assumption) | exact And.left (And.right (by assumption)) | exact And.left (And.right (And.right (by assumption))) | exact And.left (And.right (And.right (And.right (by assumption)))) | exact And.left (And.right (And.right (And.right (And.right (by assumption))))) | exact And.left (And.right (And.right (And.right (And.right (And.right (by assumption)))))) | exact And.left (And.right (And.right (And.right (And.right (And.right (And.right (by assumption))))))) | exact And.left (And.right (And.right (And.right (And.right (And.right (And.right (And.right (by assumption)))))))) | exact And.left (And.right (And.right (And.right (And.right (And.right (And.right (And.right (And.right (by assumption))))))))) | exact And.left (And.right (And.right (And.right (And.right (And.right (And.right (And.right (And.right (And.right (by assumption)))))))))) | exact And.left (And.right (And.right (And.right (And.right (And.right (And.right (And.right (And.right (And.right (And.right (by assumption))))))))))) | exact And.left (And.right (And.right (And.right (And.right (And.right (And.right (And.right (And.right (And.right (And.right (And.right (by assumption)))))))))))) | exact And.left (And.right (And.right (And.right (And.right (And.right (And.right (And.right (And.right (And.right (And.right (And.right (And.right (by assumption))))))))))))) | exact And.left (And.right (And.right (And.right (And.right (And.right (And.right (And.right (And.right (And.right (And.right (And.right (And.right (And.right (by assumption)))))))))))))) | exact And.right (by assumption) | exact And.right (And.right (by assumption)) | exact And.right (And.right (And.right (by assumption))) | exact And.right (And.right (And.right (And.right (by assumption)))) | exact And.right (And.right (And.right (And.right (And.right (by assumption))))) | exact And.right (And.right (And.right (And.right (And.right (And.right (by assumption)))))) | exact And.right (And.right (And.right (And.right (And.right (And.right (And.right (by assumption)))))))
  k_with "k_all" => first | assumption | exact fun p hp => Nat.ne_of_lt (tb_ltOf (by assumption) p hp) | exact fun p hp => Nat.ne_of_gt (tb_ltOf (by assumption) p hp) | ((repeat (rename _ ∧ _ => q; cases q)); exact fun p hp => Nat.ne_of_lt (tb_ltOf (by assumption) p hp)) | ((repeat (rename _ ∧ _ => q; cases q)); exact fun p hp => Nat.ne_of_gt (tb_ltOf (by assumption) p hp))
  k_with "mine sub" => (intro p hp; (repeat first | exact hp | refine List.Mem.tail _ ?_))
  k_with "mine opt" => first | assumption | exact isOpt_none | exact isOpt_int _ _
  k_with "mine tk" => first | assumption | exact Mine.tk2 (by walk_at "mine opt") (by walk_at "mine opt")
  k_with "compareOp In ref ref" => (k_here; k_dflt (refine rows_in (by exact Nat.le_of_ble_eq_true rfl) (by k_asm) (by assumption) (by walk_at "mine sub") (by k_mem) (by assumption) (by k_mem) (by walk_at "mine tk") ?_; k_whole))
  k_with "compareOp NotIn ref ref" => (k_here; k_dflt (refine rows_notin (by exact Nat.le_of_ble_eq_true rfl) (by k_asm) (by assumption) (by walk_at "mine sub") (by k_mem) (by assumption) (by k_mem) (by walk_at "mine tk") ?_; k_whole))
  k_with "call builtin:dict.get" => (k_here; k_dflt (refine rows_get (by exact Nat.le_of_ble_eq_true rfl) (by k_asm) (by assumption) (by walk_at "mine sub") (by k_mem) (by assumption) (by k_mem) (by walk_at "mine tk") ?_; k_whole); intro v' hv')
  k_with "getMethod ref" => (k_here; (with_reducible show wpAny _ _ (getMethod (Value.ref _) _ _) _ _ _); k_dflt (refine rows_meth (by first | exact PySem.F.slot_dict_get | exact PySem.F.slot_dict_pop) (by rfl) (by k_asm) (by assumption) (by walk_at "mine sub") (by k_mem) (by assumption) ?_; k_whole))
  k_with "subscriptTail" => (k_here; (with_reducible show wpAny _ _ (subscriptTail _ _ (Value.ref _) (Value.ref _)) _ _ _); k_dflt (refine rows_itemS (by exact Nat.le_of_ble_eq_true rfl) (by k_asm) (by assumption) (by walk_at "mine sub") (by k_mem) (by assumption) (by k_mem) (by walk_at "mine tk") (by assumption) ?_ (by with_unfolding_all rfl) (by (intro _; with_unfolding_all rfl)); k_whole); intro v' d' hl' hv')
  k_with "call builtin:len" => (k_here; (with_reducible show wpAny _ _ (call (Value.builtin "len") [Value.ref _]) _ _ _); k_dflt (refine lenL (by k_asm) (by k_mem) (by omega) ?_; k_whole); intro t' tk')
  k_with "call builtin:dict.pop" => (k_here; (with_reducible show wpAny _ _ (call (Value.builtin _) [Value.ref _, Value.int _ _]) _ _ _); k_dflt (refine popI (by k_asm) (by k_asm) (by k_updF) (by assumption) (by assumption) (by assumption) (by omega) ?_; k_whole); intro h' o' v' kvs' D' F' N' hd' hf' hn' hl'; (try dsimp only at N'))
  k_with "setItem ref int" => (k_here; k_dflt (refine setItem_K PyProof.V.same_int (intKind_is _ _ _ _) (by k_flat) (by k_asm) (by k_asm) (by k_updF) (by assumption) (by assumption) ?_ (by (rw [sizeLine_eq]; omega)); ); intro h' o' F' N' hd' hf'; (try dsimp only at N'))
  k_with "call builtin:list.pop" => (k_here; k_dflt (refine pop0 (by k_asm) (by k_asm) (by k_upd) (by (have hq := IntsAre.length (by assumption); rw [sizeLine_eq]; simp only [List.length_cons] at *; omega)) ?_; k_whole); intro h' F' N'; (try dsimp only [List.nil_append, List.cons_append] at N'))
  k_with "call builtin:list.append" => (k_here; (with_reducible show wpAny _ _ (call (Value.builtin _) [Value.ref _, _]) _ _ _); k_dflt (refine appF (by k_asm) (by k_asm) (by first | omega | (simp only [List.length_append, List.length_cons, List.length_nil]; omega)) (by k_upd) ?_; k_whole); intro h' F' N'; (try dsimp only [List.nil_append, List.cons_append] at N'))
  k_with "getItem ref int" => (k_here; k_dflt (refine getItem_some PyProof.V.same_int (intKind_is _ _ _ _) (by k_tabat) (by assumption) ?_; k_whole); intro v' d' hl' hv')
  k_with "mine stat" => (rename Rep _ _ _ _ => RR; refine Rep.use RR ?_; intro hS1 hS2 hS3 oS4 hS4 kS4 hS4' hS4'' hS5 hS6 oS7 hS7 kS7 hS7' hS7'' hS8 hS9 esS10 nS10 hS10 hS10' hS11 hS12 hS13 esS14 nS14 hS14 hS14' hS15 hS16 hS17 hS18 hS19 hS20 hS21 hS22 hS23 hS24 hS25 hS26 gS1 gS2 gS3 gS4 gS5 gS6)
  k_with "mine statS" => (rename Stat _ _ _ => SS; refine Stat.use SS ?_; intro hS1 hS2 hS3 oS4 hS4 kS4 hS4' hS4'' hS5 hS6 oS7 hS7 kS7 hS7' hS7'' hS8 hS9 esS10 nS10 hS10 hS10' hS11 hS12 hS13 esS14 nS14 hS14 hS14' hS15 hS16 hS17 hS18 hS19 hS20 hS21 hS22 hS23 hS24 hS25 hS26 gS1 gS2 gS3 gS4 gS5 gS6)
  k_with "mine dyn" => (rename Rep _ _ _ _ => RR; refine Rep.dyn RR ?_; intro jS1 odS jS2 kdS jS2' jS2'' o0S jS3 k0S jS3' jS3'' o1S jS4 k1S jS4' jS4'')
  k_with "mine fr" => (intro z q1 q2; (try dsimp only); first | (rw [if_neg q1, q2]; rfl) | (have q3 := q2; simp only [List.contains_cons, List.contains_nil, Bool.or_false, Bool.or_eq_false_iff, beq_eq_false_iff_ne, ne_eq] at q3; simp only [q1, q2, q3, if_false, List.contains_nil, Bool.false_eq_true]))
  k_with "mine frw" => (intro z q2; (try dsimp only); have q3 := q2; simp only [List.contains_cons, List.contains_nil, Bool.or_false, Bool.or_eq_false_iff, beq_eq_false_iff_ne, ne_eq] at q3; simp only [q2, q3, if_false, List.contains_nil, Bool.false_eq_true])
  k_with "k_handed" => exact flat_handed (by assumption)
  k_with "k_get" => assumption
  k_with "execs cons" => (k_here; first | k_gentoks | (refine execsG ?_; intro Q' hn hr))
  k_with "k_mem" => (change (_ : Addr × Obj) ∈ (_ : List (Addr × Obj)); ktr_member)
  trivial
-- 97_a1
section
example : True := by
  k_with "k_mem" => (change (_ : Addr × Obj) ∈ (_ : List (Addr × Obj)); first | ktr_member | exact Kp.cellm (by assumption))
  trivial
example : True := by
  k_with "call ref" => ((with_reducible show wpAny _ _ (call (Value.ref 809) _) _ _ _); k_here; k_dflt (refine own_c1 (by apply below_caller) (by k_asm) (by k_asm) (by k_asm) (by rfl) (by k_asm) (by assumption) (by assumption) ?_; k_whole); intro h' tk' F' N')
  trivial
example : True := by
  k_with "mine now" =>
    unfold g_stF
    dsimp only
    k_fill
    set_option tactic.hygienic false in intros
    obtain ⟨z, t1, t2, t3, t4, nq, hsy0, hz0⟩ := hnum
    have hsy := hsy0.1
    have hz := hz0.1
    have hcc := G1.cur
    have hf4 := hf5.mono (show 100 ≤ 400 by decide)
    have hf3 := hf5.mono (show 100 ≤ 300 by decide)
    have j1 := R5.wd
    have j2 := R5.st.wo.1
    repeat' ((fail_if_success (with_reducible show wpAny _ _ (call (Value.ref _) (_ :: _) _) _ _ _)); walk_at "mine step")
    repeat' ((fail_if_success (with_reducible show wpAny _ _ (call (Value.ref _) _ _) _ _ _)); walk_at "mine step")
    k_here
    refine' set_in_c ?yB1 ?yF1 ?yX1 ?yT1 rfl ?yN1 R5 hf4 hcc rfl (PyProof.V.Flat.int _ _) ?_
    case yF1 => k_asm
    case yB1 => exact below_caller _
    case yX1 => k_asm
    case yT1 => k_asm
    case yN1 => k_asm
    k_whole
    intro h' tk' nx6 F' N' x6 R6
    have kp6 := kp5.ext x6
    have hf6 : (σ.setD (σ.at (nm + 2)) (nm + 2) (PyData.int vz)).Fits 400 := (hf5.setD _ _ _).mono (by decide)
    repeat' ((fail_if_success (with_reducible show wpAny _ _ (call (Value.ref _) _ _) _ _ _)); walk_at "mine step")
    k_here
    refine' place_c ?yB2 ?yF2 ?yX2 ?yT2 rfl ?yN2 R6 hc1 ?_
    case yF2 => k_asm
    case yB2 => exact below_caller _
    case yX2 => k_asm
    case yT2 => k_asm
    case yN2 => k_asm
    k_whole
    intro pb pv pt h' tk' nx7 F' N' R7 x7 ps7 hv7
    have kp7 := kp6.ext x7
    repeat' ((fail_if_success (with_reducible show wpAny _ _ (setItem _ _ _) _ _ _)); walk_at "mine step")
    k_here
    refine' set_rw ?yF3 ?yN3 R7 hf6 (Nat.le_of_ble_eq_true rfl) (PyProof.V.Flat.int _ _) ps7 (tk2 hv7 (isOpt_int _ _)) ?_
    case yF3 => k_asm
    case yN3 => k_asm
    k_whole
    intro h' tk' nx8 F' N' x8 R8
    repeat' (walk_at "mine step")
    exact ArmPost.intro (by assumption) (by assumption) R8 (kp7.ext x8) (G1.arm1 hnm _ rfl) (H1.arm1 (.inr ⟨_, rfl⟩)) (by show isOpt (Si.setD _ _ _ _).cur _ = true; rw [Si.setD_cur]; exact hc1) rfl (fun _ _ _ _ => rfl)
  trivial
theorem pa1 : g_stF.Pz2 := by
  refine GoalP.out ?_
  simp (disch := k_dflt (walk_at "mine now")) only [↓goalP_of]

end

example : True := by
  k_with_none
  k_with "mine c" => with_reducible first | assumption | exact And.left (by assumption) | exact And.left (And.right (by assumption)) | exact And.left (And.right (And.right (by assumption))) | exact And.left (And.right (And.right (And.right (by assumption)))) | exact And.left (And.right (And.right (And.right (And.right (by assumption))))) | exact And.left (And.right (And.right (And.right (And.right (And.right (by assumption)))))) | exact And.left (And.right (And.right (And.right (And.right (And.right (And.right (by assumption))))))) | exact And.left (And.right (And.right (And.right (And.right (And.right (And.right (And.right (by assumption)))))))) | exact And.left (And.right (And.right (And.right (And.right (And.right (And.right (And.right (And.right (by assumption))))))))) | exact And.left (And.right (And.right (And.right (And.right (And.right (And.right (And.right (And.right (And.right (by assumption)))))))))) | exact And.left (And.right (And.right (And.right (And.right (And.right (And.right (And.right (And.right (And.right (And.right (by assumption))))))))))) | exact And.left (And.right (And.right (And.right (And.right (And.right (And.right (And.right (And.right (And.right (And.right (And.right (by assumption)))))))))))) | exact And.left (And.right (And.right (And.right (And.right (And.right (And.right (And.right (And.right (And.right (And.right (And.right (And.right (by assumption))))))))))))) | exact And.left (And.right (And.right (And.right (And.right (And.right (And.right (And.right (And.right (And.right (And.right (And.right (And.right (And.right (by assumption)))))))))))))) | exact And.right (by assumption) | exact And.right (And.right (by assumption)) | exact And.right (And.right (And.right (by assumption))) | exact And.right (And.right (And.right (And.right (by assumption)))) | exact And.right (And.right (And.right (And.right (And.right (by assumption))))) | exact And.right (And.right (And.right (And.right (And.right (And.right (by assumption)))))) | exact And.right (And.right (And.right (And.right (And.right (And.right (And.right (by assumption)))))))
  k_with "k_all" => first | assumption | exact fun p hp => Nat.ne_of_lt (tb_ltOf (by assumption) p hp) | exact fun p hp => Nat.ne_of_gt (tb_ltOf (by assumption) p hp) | ((repeat (rename _ ∧ _ => q; cases q)); exact fun p hp => Nat.ne_of_lt (tb_ltOf (by assumption) p hp)) | ((repeat (rename _ ∧ _ => q; cases q)); exact fun p hp => Nat.ne_of_gt (tb_ltOf (by assumption) p hp))
  k_with "mine sub" => (intro p hp; (repeat first | exact hp | refine List.Mem.tail _ ?_))
  k_with "mine opt" => first | assumption | exact isOpt_none | exact isOpt_int _ _
  k_with "mine tk" => first | assumption | exact Mine.tk2 (by walk_at "mine opt") (by walk_at "mine opt")
  k_with "compareOp In ref ref" => (k_here; k_dflt (refine rows_in (by exact Nat.le_of_ble_eq_true rfl) (by k_asm) (by assumption) (by walk_at "mine sub") (by k_mem) (by assumption) (by k_mem) (by walk_at "mine tk") ?_; k_whole))
  k_with "compareOp NotIn ref ref" => (k_here; k_dflt (refine rows_notin (by exact Nat.le_of_ble_eq_true rfl) (by k_asm) (by assumption) (by walk_at "mine sub") (by k_mem) (by assumption) (by k_mem) (by walk_at "mine tk") ?_; k_whole))
  k_with "call builtin:dict.get" => (k_here; k_dflt (refine rows_get (by exact Nat.le_of_ble_eq_true rfl) (by k_asm) (by assumption) (by walk_at "mine sub") (by k_mem) (by assumption) (by k_mem) (by walk_at "mine tk") ?_; k_whole); intro v' hv')
  k_with "getMethod ref" => (k_here; (with_reducible show wpAny _ _ (getMethod (Value.ref _) _ _) _ _ _); k_dflt (refine rows_meth (by first | exact PySem.F.slot_dict_get | exact PySem.F.slot_dict_pop) (by rfl) (by k_asm) (by assumption) (by walk_at "mine sub") (by k_mem) (by assumption) ?_; k_whole))
  k_with "subscriptTail" => (k_here; (with_reducible show wpAny _ _ (subscriptTail _ _ (Value.ref _) (Value.ref _)) _ _ _); k_dflt (refine rows_itemS (by exact Nat.le_of_ble_eq_true rfl) (by k_asm) (by assumption) (by walk_at "mine sub") (by k_mem) (by assumption) (by k_mem) (by walk_at "mine tk") (by assumption) ?_ (by with_unfolding_all rfl) (by (intro _; with_unfolding_all rfl)); k_whole); intro v' d' hl' hv')
  k_with "call builtin:len" => (k_here; (with_reducible show wpAny _ _ (call (Value.builtin "len") [Value.ref _]) _ _ _); k_dflt (refine lenL (by k_asm) (by k_mem) (by omega) ?_; k_whole); intro t' tk')
  k_with "call builtin:dict.pop" => (k_here; (with_reducible show wpAny _ _ (call (Value.builtin _) [Value.ref _, Value.int _ _]) _ _ _); k_dflt (refine popI (by k_asm) (by k_asm) (by k_updF) (by assumption) (by assumption) (by assumption) (by omega) ?_; k_whole); intro h' o' v' kvs' D' F' N' hd' hf' hn' hl'; (try dsimp only at N'))
  k_with "setItem ref int" => (k_here; k_dflt (refine setItem_K PyProof.V.same_int (intKind_is _ _ _ _) (by k_flat) (by k_asm) (by k_asm) (by k_updF) (by assumption) (by assumption) ?_ (by (rw [sizeLine_eq]; omega)); ); intro h' o' F' N' hd' hf'; (try dsimp only at N'))
  k_with "call builtin:list.pop" => (k_here; k_dflt (refine pop0 (by k_asm) (by k_asm) (by k_upd) (by (have hq := IntsAre.length (by assumption); rw [sizeLine_eq]; simp only [List.length_cons] at *; omega)) ?_; k_whole); intro h' F' N'; (try dsimp only [List.nil_append, List.cons_append] at N'))
  k_with "call builtin:list.append" => (k_here; (with_reducible show wpAny _ _ (call (Value.builtin _) [Value.ref _, _]) _ _ _); k_dflt (refine appF (by k_asm) (by k_asm) (by first | omega | (simp only [List.length_append, List.length_cons, List.length_nil]; omega)) (by k_upd) ?_; k_whole); intro h' F' N'; (try dsimp only [List.nil_append, List.cons_append] at N'))
  k_with "getItem ref int" => (k_here; k_dflt (refine getItem_some PyProof.V.same_int (intKind_is _ _ _ _) (by k_tabat) (by assumption) ?_; k_whole); intro v' d' hl' hv')
  k_with "mine stat" => (rename Rep _ _ _ _ => RR; refine Rep.use RR ?_; intro hS1 hS2 hS3 oS4 hS4 kS4 hS4' hS4'' hS5 hS6 oS7 hS7 kS7 hS7' hS7'' hS8 hS9 esS10 nS10 hS10 hS10' hS11 hS12 hS13 esS14 nS14 hS14 hS14' hS15 hS16 hS17 hS18 hS19 hS20 hS21 hS22 hS23 hS24 hS25 hS26 gS1 gS2 gS3 gS4 gS5 gS6)
  k_with "mine statS" => (rename Stat _ _ _ => SS; refine Stat.use SS ?_; intro hS1 hS2 hS3 oS4 hS4 kS4 hS4' hS4'' hS5 hS6 oS7 hS7 kS7 hS7' hS7'' hS8 hS9 esS10 nS10 hS10 hS10' hS11 hS12 hS13 esS14 nS14 hS14 hS14' hS15 hS16 hS17 hS18 hS19 hS20 hS21 hS22 hS23 hS24 hS25 hS26 gS1 gS2 gS3 gS4 gS5 gS6)
  k_with "mine dyn" => (rename Rep _ _ _ _ => RR; refine Rep.dyn RR ?_; intro jS1 odS jS2 kdS jS2' jS2'' o0S jS3 k0S jS3' jS3'' o1S jS4 k1S jS4' jS4'')
  k_with "mine fr" => (intro z q1 q2; (try dsimp only); first | (rw [if_neg q1, q2]; rfl) | (have q3 := q2; simp only [List.contains_cons, List.contains_nil, Bool.or_false, Bool.or_eq_false_iff, beq_eq_false_iff_ne, ne_eq] at q3; simp only [q1, q2, q3, if_false, List.contains_nil, Bool.false_eq_true]))
  k_with "mine frw" => (intro z q2; (try dsimp only); have q3 := q2; simp only [List.contains_cons, List.contains_nil, Bool.or_false, Bool.or_eq_false_iff, beq_eq_false_iff_ne, ne_eq] at q3; simp only [q2, q3, if_false, List.contains_nil, Bool.false_eq_true])
  k_with "k_handed" => exact flat_handed (by assumption)
  k_with "k_get" => assumption
  k_with "execs cons" => (k_here; first | k_gentoks | (refine execsG ?_; intro Q' hn hr))
  k_with "k_mem" => (change (_ : Addr × Obj) ∈ (_ : List (Addr × Obj)); ktr_member)
  trivial
-- 97_a2
section
example : True := by
  k_with "k_mem" => (change (_ : Addr × Obj) ∈ (_ : List (Addr × Obj)); first | ktr_member | exact Kp.cellm (by assumption))
  trivial
example : True := by
  k_with "mine now" =>
    unfold g_stF
    dsimp only
    k_fill
    set_option tactic.hygienic false in intros
    obtain ⟨z, t1, t2, t3, t4, nq, hsy0, hz0⟩ := hnum
    have hsy := hsy0.1
    have hz := hz0.1
    have hcc := G1.cur
    have hf4 := hf5.mono (show 100 ≤ 400 by decide)
    have hf3 := hf5.mono (show 100 ≤ 300 by decide)
    rename News _ _ _ _ => N9
    replace N9 := News.tail N9
    repeat' ((fail_if_success (with_reducible show wpAny _ _ (call (Value.ref _) _ _) _ _ _)); walk_at "mine step")
    k_here
    refine' place_c ?yB1 ?yF1 ?yX1 ?yT1 rfl ?yN1 R5 hc1 ?_
    case yF1 => k_asm
    case yB1 => exact below_caller _
    case yX1 => k_asm
    case yT1 => k_asm
    case yN1 => k_asm
    k_whole
    intro pb pv pt h' tk' nx6 F' N' R6 x6 ps6 hv6
    have kp6 := kp5.ext x6
    obtain ⟨pl, hpl⟩ : ∃ pl, pl = (if (Spec.lookup (encTuple encO [σ.cur, some nm]) σ.R).isSome = true then σ.cur else none) := ⟨_, rfl⟩
    rw [← hpl] at hv6
    obtain ⟨vk, ck, jkp, hk0⟩ := R6.kp
    obtain ⟨ro, jrw, hr0⟩ := R6.rw
    have hr1 : RowsO PP w (fun p => p ∈ nx6) ro σ.R := hr0.mono fun p hp => hp.1
    have lo1 := R6.st.lows.2.2.2.2.2
    have mpb := ps6.1
    have tkp := tk2 (prog := PP) (w := w) (n := 0) hv6 (isOpt_int nm pt)
    repeat' ((fail_if_success (with_reducible show wpAny _ _ (newTuple _) _ _ _)); walk_at "mine step")
    rename News _ _ _ _ => NB
    have hB := fun p hp => Heap.lt_size (NB p hp).1
    repeat' ((fail_if_success (with_reducible show wpAny _ _ (call (Value.builtin "list.append") _ _) _ _ _)); walk_at "mine step")
    k_here
    refine' append_kp (k := ((pl, nm), (Spec.lookup (encTuple encO [pl, some nm]) σ.R).getD .none)) ?yFa ?yNa (R6.ext (fun p hp => .tail _ hp)) hf4 ⟨_, _, _, _, _, _, _, rfl, ⟨.head _, R6.new hB⟩, ⟨.tail _ ps6.1, ps6.2⟩, hv6, isOpt_int _ _, by assumption⟩ ?_
    case yFa => k_asm
    case yNa => k_asm
    k_whole
    intro h' nx8 F' N' x8 R8
    have ps8 := x8.ps _ _ ⟨.tail _ ps6.1, ps6.2⟩
    have kp8 := (kp6.ext (fun p hp _ => List.Mem.tail _ hp)).ext x8
    have hf8 := hf5.withK ((Spec.lookup (encTuple encO [pl, some nm]) σ.R).getD .none) (pl, nm)
    repeat' ((fail_if_success (with_reducible show wpAny _ _ (setItem _ _ _) _ _ _)); walk_at "mine step")
    k_here
    refine' set_rw ?yF2 ?yN2 R8 (hf8.mono (by decide)) (Nat.le_of_ble_eq_true rfl) (PyProof.V.Flat.int _ _) ps8 (tk2 hv6 (isOpt_int _ _)) ?_
    case yF2 => k_asm
    case yN2 => k_asm
    k_whole
    intro h' tk' nx9 F' N' x9 R9
    have kp9 := kp8.ext x9
    have hf9 := hf8.withR (encTuple encO [pl, some nm]) (PyData.int vz)
    have jsk := R9.st.sk.1
    have jsd := R9.st.sd.1
    repeat' ((fail_if_success (with_reducible show wpAny _ _ (call (Value.ref _) _ _) _ _ _)); walk_at "mine step")
    k_here
    refine' bindm_c ?yB3 ?yF3 ?yX3 ?yT3 rfl ?yN3 R9 hnm (hf9.mono (by decide)) G1.cur (PyProof.V.Flat.int _ _) ?_
    case yF3 => k_asm
    case yB3 => exact below_caller _
    case yX3 => k_asm
    case yT3 => k_asm
    case yN3 => k_asm
    k_whole
    intro h' tk' nx10 F' N' x10 R10
    repeat' (walk_at "mine step")
    exact ArmPost.intro (by assumption) (by assumption) R10 (kp9.ext x10) (G1.arm2 hnm _ hpl) (H1.arm2 (.inr ⟨_, rfl⟩) _ _) (by show isOpt (Si.setD _ _ _ _).cur _ = true; rw [Si.setD_cur]; exact hc1) rfl (fun y q1 q2 q3 => if_neg q2)
  trivial
theorem pa2 : g_stF.Pz3 := by
  refine GoalP.out ?_
  simp (disch := k_dflt (walk_at "mine now")) only [↓goalP_of]

end

example : True := by
  k_with_none
  k_with "mine c" => with_reducible first | assumption | exact And.left (by assumption) | exact And.left (And.right (by assumption)) | exact And.left (And.right (And.right (by assumption))) | exact And.left (And.right (And.right (And.right (by assumption)))) | exact And.left (And.right (And.right (And.right (And.right (by assumption))))) | exact And.left (And.right (And.right (And.right (And.right (And.right (by assumption)))))) | exact And.left (And.right (And.right (And.right (And.right (And.right (And.right (by assumption))))))) | exact And.left (And.right (And.right (And.right (And.right (And.right (And.right (And.right (by assumption)))))))) | exact And.left (And.right (And.right (And.right (And.right (And.right (And.right (And.right (And.right (by assumption))))))))) | exact And.left (And.right (And.right (And.right (And.right (And.right (And.right (And.right (And.right (And.right (by assumption)))))))))) | exact And.left (And.right (And.right (And.right (And.right (And.right (And.right (And.right (And.right (And.right (And.right (by assumption))))))))))) | exact And.left (And.right (And.right (And.right (And.right (And.right (And.right (And.right (And.right (And.right (And.right (And.right (by assumption)))))))))))) | exact And.left (And.right (And.right (And.right (And.right (And.right (And.right (And.right (And.right (And.right (And.right (And.right (And.right (by assumption))))))))))))) | exact And.left (And.right (And.right (And.right (And.right (And.right (And.right (And.right (And.right (And.right (And.right (And.right (And.right (And.right (by assumption)))))))))))))) | exact And.right (by assumption) | exact And.right (And.right (by assumption)) | exact And.right (And.right (And.right (by assumption))) | exact And.right (And.right (And.right (And.right (by assumption)))) | exact And.right (And.right (And.right (And.right (And.right (by assumption))))) | exact And.right (And.right (And.right (And.right (And.right (And.right (by assumption)))))) | exact And.right (And.right (And.right (And.right (And.right (And.right (And.right (by assumption)))))))
  k_with "k_all" => first | assumption | exact fun p hp => Nat.ne_of_lt (tb_ltOf (by assumption) p hp) | exact fun p hp => Nat.ne_of_gt (tb_ltOf (by assumption) p hp) | ((repeat (rename _ ∧ _ => q; cases q)); exact fun p hp => Nat.ne_of_lt (tb_ltOf (by assumption) p hp)) | ((repeat (rename _ ∧ _ => q; cases q)); exact fun p hp => Nat.ne_of_gt (tb_ltOf (by assumption) p hp))
  k_with "mine sub" => (intro p hp; (repeat first | exact hp | refine List.Mem.tail _ ?_))
  k_with "mine opt" => first | assumption | exact isOpt_none | exact isOpt_int _ _
  k_with "mine tk" => first | assumption | exact Mine.tk2 (by walk_at "mine opt") (by walk_at "mine opt")
  k_with "compareOp In ref ref" => (k_here; k_dflt (refine rows_in (by exact Nat.le_of_ble_eq_true rfl) (by k_asm) (by assumption) (by walk_at "mine sub") (by k_mem) (by assumption) (by k_mem) (by walk_at "mine tk") ?_; k_whole))
  k_with "compareOp NotIn ref ref" => (k_here; k_dflt (refine rows_notin (by exact Nat.le_of_ble_eq_true rfl) (by k_asm) (by assumption) (by walk_at "mine sub") (by k_mem) (by assumption) (by k_mem) (by walk_at "mine tk") ?_; k_whole))
  k_with "call builtin:dict.get" => (k_here; k_dflt (refine rows_get (by exact Nat.le_of_ble_eq_true rfl) (by k_asm) (by assumption) (by walk_at "mine sub") (by k_mem) (by assumption) (by k_mem) (by walk_at "mine tk") ?_; k_whole); intro v' hv')
  k_with "getMethod ref" => (k_here; (with_reducible show wpAny _ _ (getMethod (Value.ref _) _ _) _ _ _); k_dflt (refine rows_meth (by first | exact PySem.F.slot_dict_get | exact PySem.F.slot_dict_pop) (by rfl) (by k_asm) (by assumption) (by walk_at "mine sub") (by k_mem) (by assumption) ?_; k_whole))
  k_with "subscriptTail" => (k_here; (with_reducible show wpAny _ _ (subscriptTail _ _ (Value.ref _) (Value.ref _)) _ _ _); k_dflt (refine rows_itemS (by exact Nat.le_of_ble_eq_true rfl) (by k_asm) (by assumption) (by walk_at "mine sub") (by k_mem) (by assumption) (by k_mem) (by walk_at "mine tk") (by assumption) ?_ (by with_unfolding_all rfl) (by (intro _; with_unfolding_all rfl)); k_whole); intro v' d' hl' hv')
  k_with "call builtin:len" => (k_here; (with_reducible show wpAny _ _ (call (Value.builtin "len") [Value.ref _]) _ _ _); k_dflt (refine lenL (by k_asm) (by k_mem) (by omega) ?_; k_whole); intro t' tk')
  k_with "call builtin:dict.pop" => (k_here; (with_reducible show wpAny _ _ (call (Value.builtin _) [Value.ref _, Value.int _ _]) _ _ _); k_dflt (refine popI (by k_asm) (by k_asm) (by k_updF) (by assumption) (by assumption) (by assumption) (by omega) ?_; k_whole); intro h' o' v' kvs' D' F' N' hd' hf' hn' hl'; (try dsimp only at N'))
  k_with "setItem ref int" => (k_here; k_dflt (refine setItem_K PyProof.V.same_int (intKind_is _ _ _ _) (by k_flat) (by k_asm) (by k_asm) (by k_updF) (by assumption) (by assumption) ?_ (by (rw [sizeLine_eq]; omega)); ); intro h' o' F' N' hd' hf'; (try dsimp only at N'))
  k_with "call builtin:list.pop" => (k_here; k_dflt (refine pop0 (by k_asm) (by k_asm) (by k_upd) (by (have hq := IntsAre.length (by assumption); rw [sizeLine_eq]; simp only [List.length_cons] at *; omega)) ?_; k_whole); intro h' F' N'; (try dsimp only [List.nil_append, List.cons_append] at N'))
  k_with "call builtin:list.append" => (k_here; (with_reducible show wpAny _ _ (call (Value.builtin _) [Value.ref _, _]) _ _ _); k_dflt (refine appF (by k_asm) (by k_asm) (by first | omega | (simp only [List.length_append, List.length_cons, List.length_nil]; omega)) (by k_upd) ?_; k_whole); intro h' F' N'; (try dsimp only [List.nil_append, List.cons_append] at N'))
  k_with "getItem ref int" => (k_here; k_dflt (refine getItem_some PyProof.V.same_int (intKind_is _ _ _ _) (by k_tabat) (by assumption) ?_; k_whole); intro v' d' hl' hv')
  k_with "mine stat" => (rename Rep _ _ _ _ => RR; refine Rep.use RR ?_; intro hS1 hS2 hS3 oS4 hS4 kS4 hS4' hS4'' hS5 hS6 oS7 hS7 kS7 hS7' hS7'' hS8 hS9 esS10 nS10 hS10 hS10' hS11 hS12 hS13 esS14 nS14 hS14 hS14' hS15 hS16 hS17 hS18 hS19 hS20 hS21 hS22 hS23 hS24 hS25 hS26 gS1 gS2 gS3 gS4 gS5 gS6)
  k_with "mine statS" => (rename Stat _ _ _ => SS; refine Stat.use SS ?_; intro hS1 hS2 hS3 oS4 hS4 kS4 hS4' hS4'' hS5 hS6 oS7 hS7 kS7 hS7' hS7'' hS8 hS9 esS10 nS10 hS10 hS10' hS11 hS12 hS13 esS14 nS14 hS14 hS14' hS15 hS16 hS17 hS18 hS19 hS20 hS21 hS22 hS23 hS24 hS25 hS26 gS1 gS2 gS3 gS4 gS5 gS6)
  k_with "mine dyn" => (rename Rep _ _ _ _ => RR; refine Rep.dyn RR ?_; intro jS1 odS jS2 kdS jS2' jS2'' o0S jS3 k0S jS3' jS3'' o1S jS4 k1S jS4' jS4'')
  k_with "mine fr" => (intro z q1 q2; (try dsimp only); first | (rw [if_neg q1, q2]; rfl) | (have q3 := q2; simp only [List.contains_cons, List.contains_nil, Bool.or_false, Bool.or_eq_false_iff, beq_eq_false_iff_ne, ne_eq] at q3; simp only [q1, q2, q3, if_false, List.contains_nil, Bool.false_eq_true]))
  k_with "mine frw" => (intro z q2; (try dsimp only); have q3 := q2; simp only [List.contains_cons, List.contains_nil, Bool.or_false, Bool.or_eq_false_iff, beq_eq_false_iff_ne, ne_eq] at q3; simp only [q2, q3, if_false, List.contains_nil, Bool.false_eq_true])
  k_with "k_handed" => exact flat_handed (by assumption)
  k_with "k_get" => assumption
  k_with "execs cons" => (k_here; first | k_gentoks | (refine execsG ?_; intro Q' hn hr))
  k_with "k_mem" => (change (_ : Addr × Obj) ∈ (_ : List (Addr × Obj)); ktr_member)
  trivial
-- 97_a5
section
example : True := by
  k_with "k_mem" => (change (_ : Addr × Obj) ∈ (_ : List (Addr × Obj)); first | ktr_member | exact Kp.cellm (by assumption))
  trivial
example : True := by
  k_with "mine now" =>
    unfold g_stF
    dsimp only
    k_fill
    set_option tactic.hygienic false in intros
    obtain ⟨z, t1, t2, t3, t4, nq, hsy0, hz0⟩ := hnum
    have hsy := hsy0.1
    have hz := hz0.1
    have hcc := G1.cur
    have hf4 := hf5.mono (show 100 ≤ 400 by decide)
    have hf3 := hf5.mono (show 100 ≤ 300 by decide)
    rename News _ _ _ _ => N9
    replace N9 := News.tail N9
    obtain rfl : way = 5 := by assumption
    rcases isOpt_shape hc1 with ⟨ec, rfl⟩ | ⟨ci, ct, ec, rfl⟩
    · repeat' (walk_at "mine step")
      exact ArmPost.intro (by assumption) (by assumption) R5 kp5 G1.later H1 hc1 rfl (fun _ _ _ _ => rfl)
    · obtain ⟨ro, jrw, hr0⟩ := R5.rw
      have hr1 : RowsO PP w (fun p => p ∈ nx5) ro σ.R := hr0.mono fun p hp => hp.1
      have lo1 := R5.st.lows.2.2.2.2.2
      have hcb : ci = 0 ∨ ci = 1 := by rw [ec] at hcc; exact hcc
      repeat' ((fail_if_success (with_reducible show wpAny _ _ (subscriptTail (Expr.Name _ _) (Expr.Name _ _) (Value.ref _) (Value.int _ _)) _ _ _)); (fail_if_success (with_reducible show wpAny _ _ (execs (Stmt.Assign _ _ ⟨435, _, _, _⟩ :: _) _) _ _ _)); walk_at "mine step")
      · rename Option.isSome _ = true => hin
        rename News _ _ _ _ => N9'
        replace N9' := News.tail N9'
        have jb0 := R5.st.b0.1
        have jb1 := R5.st.b1.1
        obtain ⟨es0, ns0, je0, ke0⟩ := R5.st.e0
        replace je0 := je0.1
        obtain ⟨es1, ns1, je1, ke1⟩ := R5.st.e1
        replace je1 := je1.1
        have jl0 := R5.st.l0.1
        have jl1 := R5.st.l1.1
        have jf0 := R5.st.f0.1
        have jf1 := R5.st.f1.1
        have jwd := R5.wd
        have jwo := R5.st.wo.1
        rcases hcb with rfl | rfl
        · k_here
          refine' buf_item ?zNb0 R5 (by first | exact .inl rfl | exact .inr rfl) ?_ ?zsb0 ?zgb0
          case zNb0 => k_asm
          case zsb0 => with_unfolding_all rfl
          case zgb0 => (intro _; with_unfolding_all rfl)
          rw [show curV BB (some 0) = Value.ref BB.b0 from rfl]
          repeat' ((fail_if_success (with_reducible show wpAny _ _ (call (Value.ref _) _ _) _ _ _)); walk_at "mine step")
          k_here
          refine' make_local_c ?yB8 ?yF8 ?yX8 ?yT8 rfl ?yN8 R5 hf4 (b := 0) (.inl rfl) rfl ?_
          case yF8 => k_asm
          case yB8 => exact below_caller _
          case yX8 => k_asm
          case yT8 => k_asm
          case yN8 => k_asm
          k_whole
          intro h' tk' nx7 F' N' x7 R7
          repeat' (walk_at "mine step")
          exact ArmPost.intro (by assumption) (by assumption) R7 (kp5.ext x7) (G1.arm5a hnm (.inl rfl) (by rw [ec] at hin; exact hin)) (H1.arm5) (by rw [Si.mk1_cur]; exact hc1) rfl (fun _ _ _ _ => rfl)
        · k_here
          refine' buf_item ?zNb1 R5 (by first | exact .inl rfl | exact .inr rfl) ?_ ?zsb1 ?zgb1
          case zNb1 => k_asm
          case zsb1 => with_unfolding_all rfl
          case zgb1 => (intro _; with_unfolding_all rfl)
          rw [show curV BB (some 1) = Value.ref BB.b1 from rfl]
          repeat' ((fail_if_success (with_reducible show wpAny _ _ (call (Value.ref _) _ _) _ _ _)); walk_at "mine step")
          k_here
          refine' make_local_c ?yB9 ?yF9 ?yX9 ?yT9 rfl ?yN9 R5 hf4 (b := 1) (.inr rfl) rfl ?_
          case yF9 => k_asm
          case yB9 => exact below_caller _
          case yX9 => k_asm
          case yT9 => k_asm
          case yN9 => k_asm
          k_whole
          intro h' tk' nx7 F' N' x7 R7
          repeat' (walk_at "mine step")
          exact ArmPost.intro (by assumption) (by assumption) R7 (kp5.ext x7) (G1.arm5a hnm (.inr rfl) (by rw [ec] at hin; exact hin)) (H1.arm5) (by rw [Si.mk1_cur]; exact hc1) rfl (fun _ _ _ _ => rfl)
      · rename Option.isSome _ = false => hin
        rename News _ _ _ _ => N9'
        replace N9' := News.tail N9'
        repeat' ((fail_if_success (with_reducible show wpAny _ _ (call (Value.builtin "dict.get") _ _) _ _ _)); walk_at "mine step")
        repeat' ((fail_if_success (with_reducible show wpAny _ _ (newTuple _) _ _ _)); walk_at "mine step")
        rename News _ _ _ _ => NB
        have hB := fun p hp => Heap.lt_size (NB p hp).1
        repeat' ((fail_if_success (with_reducible show wpAny _ _ (setItem _ _ _) _ _ _)); walk_at "mine step")
        rename PyProof.V.Flat _ _ => hvf
        rename News _ _ _ _ => NS
        k_here
        refine' set_rw ?yFs NS (R5.ext (fun p hp => .tail _ (.tail _ hp))) hf4 (Nat.le_of_ble_eq_true rfl) hvf ⟨.head _, R5.new (fun p hp => hB p (.tail _ hp))⟩ (tk2 (isOpt_int _ _) (isOpt_int _ _)) ?_
        case yFs => k_asm
        k_whole
        intro h' tk' nx6 F' N' x6 R6
        have kp6 := (kp5.ext (fun p hp _ => List.Mem.tail _ (List.Mem.tail _ hp))).ext x6
        obtain ⟨z', t1', t2', t3', t4', nq', hsy0', hz0'⟩ := symA_at R6.st hnm
        have hsy' := hsy0'.1
        have hz' := hz0'.1
        have jb0 := R6.st.b0.1
        have jb1 := R6.st.b1.1
        obtain ⟨es0, ns0, je0, ke0⟩ := R6.st.e0
        replace je0 := je0.1
        obtain ⟨es1, ns1, je1, ke1⟩ := R6.st.e1
        replace je1 := je1.1
        have jl0 := R6.st.l0.1
        have jl1 := R6.st.l1.1
        have jf0 := R6.st.f0.1
        have jf1 := R6.st.f1.1
        have jwd := R6.wd
        have jwo := R6.st.wo.1
        have hf6 := (hf3.withR (encTuple encO [some ci, some nm]) ((Spec.lookup (encTuple encO [none, some nm]) σ.R).getD .none)).mono (show 301 ≤ 400 by decide)
        repeat' ((fail_if_success (with_reducible show wpAny _ _ (subscriptTail _ _ _ _) _ _ _)); walk_at "mine step")
        rcases hcb with rfl | rfl
        · k_here
          refine' buf_item ?zNn0 R6 (by first | exact .inl rfl | exact .inr rfl) ?_ ?zsn0 ?zgn0
          case zNn0 => k_asm
          case zsn0 => with_unfolding_all rfl
          case zgn0 => (intro _; with_unfolding_all rfl)
          rw [show curV BB (some 0) = Value.ref BB.b0 from rfl]
          repeat' ((fail_if_success (with_reducible show wpAny _ _ (call (Value.ref _) _ _) _ _ _)); walk_at "mine step")
          k_here
          refine' make_local_c ?wB0 ?wF0 ?wX0 ?wT0 rfl ?wN0 R6 hf6 (b := 0) (.inl rfl) rfl ?_
          case wF0 => k_asm
          case wB0 => exact below_caller _
          case wX0 => k_asm
          case wT0 => k_asm
          case wN0 => k_asm
          k_whole
          intro h' tk' nx7 F' N' x7 R7
          repeat' (walk_at "mine step")
          exact ArmPost.intro (by assumption) (by assumption) R7 (kp6.ext x7) (G1.arm5b hnm (.inl rfl) (by rw [ec] at hin; exact hin)) (H1.arm5b) (by rw [Si.mk1_cur]; exact hc1) rfl (fun _ _ _ _ => rfl)
        · k_here
          refine' buf_item ?zNn1 R6 (by first | exact .inl rfl | exact .inr rfl) ?_ ?zsn1 ?zgn1
          case zNn1 => k_asm
          case zsn1 => with_unfolding_all rfl
          case zgn1 => (intro _; with_unfolding_all rfl)
          rw [show curV BB (some 1) = Value.ref BB.b1 from rfl]
          repeat' ((fail_if_success (with_reducible show wpAny _ _ (call (Value.ref _) _ _) _ _ _)); walk_at "mine step")
          k_here
          refine' make_local_c ?wB1 ?wF1 ?wX1 ?wT1 rfl ?wN1 R6 hf6 (b := 1) (.inr rfl) rfl ?_
          case wF1 => k_asm
          case wB1 => exact below_caller _
          case wX1 => k_asm
          case wT1 => k_asm
          case wN1 => k_asm
          k_whole
          intro h' tk' nx7 F' N' x7 R7
          repeat' (walk_at "mine step")
          exact ArmPost.intro (by assumption) (by assumption) R7 (kp6.ext x7) (G1.arm5b hnm (.inr rfl) (by rw [ec] at hin; exact hin)) (H1.arm5b) (by rw [Si.mk1_cur]; exact hc1) rfl (fun _ _ _ _ => rfl)
  trivial
theorem pa5 : g_stF.Pz4 := by
  refine GoalP.out ?_
  simp (disch := k_dflt (walk_at "mine now")) only [↓goalP_of]

end

example : True := by
  k_with_none
  k_with "mine c" => with_reducible first | assumption | exact And.left (by assumption) | exact And.left (And.right (by assumption)) | exact And.left (And.right (And.right (by assumption))) | exact And.left (And.right (And.right (And.right (by assumption)))) | exact And.left (And.right (And.right (And.right (And.right (by assumption))))) | exact And.left (And.right (And.right (And.right (And.right (And.right (by assumption)))))) | exact And.left (And.right (And.right (And.right (And.right (And.right (And.right (by assumption))))))) | exact And.left (And.right (And.right (And.right (And.right (And.right (And.right (And.right (by assumption)))))))) | exact And.left (And.right (And.right (And.right (And.right (And.right (And.right (And.right (And.right (by assumption))))))))) | exact And.left (And.right (And.right (And.right (And.right (And.right (And.right (And.right (And.right (And.right (by assumption)))))))))) | exact And.left (And.right (And.right (And.right (And.right (And.right (And.right (And.right (And.right (And.right (And.right (by assumption))))))))))) | exact And.left (And.right (And.right (And.right (And.right (And.right (And.right (And.right (And.right (And.right (And.right (And.right (by assumption)))))))))))) | exact And.left (And.right (And.right (And.right (And.right (And.right (And.right (And.right (And.right (And.right (And.right (And.right (And.right (by assumption))))))))))))) | exact And.left (And.right (And.right (And.right (And.right (And.right (And.right (And.right (And.right (And.right (And.right (And.right (And.right (And.right (by assumption)))))))))))))) | exact And.right (by assumption) | exact And.right (And.right (by assumption)) | exact And.right (And.right (And.right (by assumption))) | exact And.right (And.right (And.right (And.right (by assumption)))) | exact And.right (And.right (And.right (And.right (And.right (by assumption))))) | exact And.right (And.right (And.right (And.right (And.right (And.right (by assumption)))))) | exact And.right (And.right (And.right (And.right (And.right (And.right (And.right (by assumption)))))))
  k_with "k_all" => first | assumption | exact fun p hp => Nat.ne_of_lt (tb_ltOf (by assumption) p hp) | exact fun p hp => Nat.ne_of_gt (tb_ltOf (by assumption) p hp) | ((repeat (rename _ ∧ _ => q; cases q)); exact fun p hp => Nat.ne_of_lt (tb_ltOf (by assumption) p hp)) | ((repeat (rename _ ∧ _ => q; cases q)); exact fun p hp => Nat.ne_of_gt (tb_ltOf (by assumption) p hp))
  k_with "mine sub" => (intro p hp; (repeat first | exact hp | refine List.Mem.tail _ ?_))
  k_with "mine opt" => first | assumption | exact isOpt_none | exact isOpt_int _ _
  k_with "mine tk" => first | assumption | exact Mine.tk2 (by walk_at "mine opt") (by walk_at "mine opt")
  k_with "compareOp In ref ref" => (k_here; k_dflt (refine rows_in (by exact Nat.le_of_ble_eq_true rfl) (by k_asm) (by assumption) (by walk_at "mine sub") (by k_mem) (by assumption) (by k_mem) (by walk_at "mine tk") ?_; k_whole))
  k_with "compareOp NotIn ref ref" => (k_here; k_dflt (refine rows_notin (by exact Nat.le_of_ble_eq_true rfl) (by k_asm) (by assumption) (by walk_at "mine sub") (by k_mem) (by assumption) (by k_mem) (by walk_at "mine tk") ?_; k_whole))
  k_with "call builtin:dict.get" => (k_here; k_dflt (refine rows_get (by exact Nat.le_of_ble_eq_true rfl) (by k_asm) (by assumption) (by walk_at "mine sub") (by k_mem) (by assumption) (by k_mem) (by walk_at "mine tk") ?_; k_whole); intro v' hv')
  k_with "getMethod ref" => (k_here; (with_reducible show wpAny _ _ (getMethod (Value.ref _) _ _) _ _ _); k_dflt (refine rows_meth (by first | exact PySem.F.slot_dict_get | exact PySem.F.slot_dict_pop) (by rfl) (by k_asm) (by assumption) (by walk_at "mine sub") (by k_mem) (by assumption) ?_; k_whole))
  k_with "subscriptTail" => (k_here; (with_reducible show wpAny _ _ (subscriptTail _ _ (Value.ref _) (Value.ref _)) _ _ _); k_dflt (refine rows_itemS (by exact Nat.le_of_ble_eq_true rfl) (by k_asm) (by assumption) (by walk_at "mine sub") (by k_mem) (by assumption) (by k_mem) (by walk_at "mine tk") (by assumption) ?_ (by with_unfolding_all rfl) (by (intro _; with_unfolding_all rfl)); k_whole); intro v' d' hl' hv')
  k_with "call builtin:len" => (k_here; (with_reducible show wpAny _ _ (call (Value.builtin "len") [Value.ref _]) _ _ _); k_dflt (refine lenL (by k_asm) (by k_mem) (by omega) ?_; k_whole); intro t' tk')
  k_with "call builtin:dict.pop" => (k_here; (with_reducible show wpAny _ _ (call (Value.builtin _) [Value.ref _, Value.int _ _]) _ _ _); k_dflt (refine popI (by k_asm) (by k_asm) (by k_updF) (by assumption) (by assumption) (by assumption) (by omega) ?_; k_whole); intro h' o' v' kvs' D' F' N' hd' hf' hn' hl'; (try dsimp only at N'))
  k_with "setItem ref int" => (k_here; k_dflt (refine setItem_K PyProof.V.same_int (intKind_is _ _ _ _) (by k_flat) (by k_asm) (by k_asm) (by k_updF) (by assumption) (by assumption) ?_ (by (rw [sizeLine_eq]; omega)); ); intro h' o' F' N' hd' hf'; (try dsimp only at N'))
  k_with "call builtin:list.pop" => (k_here; k_dflt (refine pop0 (by k_asm) (by k_asm) (by k_upd) (by (have hq := IntsAre.length (by assumption); rw [sizeLine_eq]; simp only [List.length_cons] at *; omega)) ?_; k_whole); intro h' F' N'; (try dsimp only [List.nil_append, List.cons_append] at N'))
  k_with "call builtin:list.append" => (k_here; (with_reducible show wpAny _ _ (call (Value.builtin _) [Value.ref _, _]) _ _ _); k_dflt (refine appF (by k_asm) (by k_asm) (by first | omega | (simp only [List.length_append, List.length_cons, List.length_nil]; omega)) (by k_upd) ?_; k_whole); intro h' F' N'; (try dsimp only [List.nil_append, List.cons_append] at N'))
  k_with "getItem ref int" => (k_here; k_dflt (refine getItem_some PyProof.V.same_int (intKind_is _ _ _ _) (by k_tabat) (by assumption) ?_; k_whole); intro v' d' hl' hv')
  k_with "mine stat" => (rename Rep _ _ _ _ => RR; refine Rep.use RR ?_; intro hS1 hS2 hS3 oS4 hS4 kS4 hS4' hS4'' hS5 hS6 oS7 hS7 kS7 hS7' hS7'' hS8 hS9 esS10 nS10 hS10 hS10' hS11 hS12 hS13 esS14 nS14 hS14 hS14' hS15 hS16 hS17 hS18 hS19 hS20 hS21 hS22 hS23 hS24 hS25 hS26 gS1 gS2 gS3 gS4 gS5 gS6)
  k_with "mine statS" => (rename Stat _ _ _ => SS; refine Stat.use SS ?_; intro hS1 hS2 hS3 oS4 hS4 kS4 hS4' hS4'' hS5 hS6 oS7 hS7 kS7 hS7' hS7'' hS8 hS9 esS10 nS10 hS10 hS10' hS11 hS12 hS13 esS14 nS14 hS14 hS14' hS15 hS16 hS17 hS18 hS19 hS20 hS21 hS22 hS23 hS24 hS25 hS26 gS1 gS2 gS3 gS4 gS5 gS6)
  k_with "mine dyn" => (rename Rep _ _ _ _ => RR; refine Rep.dyn RR ?_; intro jS1 odS jS2 kdS jS2' jS2'' o0S jS3 k0S jS3' jS3'' o1S jS4 k1S jS4' jS4'')
  k_with "mine fr" => (intro z q1 q2; (try dsimp only); first | (rw [if_neg q1, q2]; rfl) | (have q3 := q2; simp only [List.contains_cons, List.contains_nil, Bool.or_false, Bool.or_eq_false_iff, beq_eq_false_iff_ne, ne_eq] at q3; simp only [q1, q2, q3, if_false, List.contains_nil, Bool.false_eq_true]))
  k_with "mine frw" => (intro z q2; (try dsimp only); have q3 := q2; simp only [List.contains_cons, List.contains_nil, Bool.or_false, Bool.or_eq_false_iff, beq_eq_false_iff_ne, ne_eq] at q3; simp only [q2, q3, if_false, List.contains_nil, Bool.false_eq_true])
  k_with "k_handed" => exact flat_handed (by assumption)
  k_with "k_get" => assumption
  k_with "execs cons" => (k_here; first | k_gentoks | (refine execsG ?_; intro Q' hn hr))
  k_with "k_mem" => (change (_ : Addr × Obj) ∈ (_ : List (Addr × Obj)); ktr_member)
  trivial
-- 97_a6
section
example : True := by
  k_with "k_mem" => (change (_ : Addr × Obj) ∈ (_ : List (Addr × Obj)); first | ktr_member | exact Kp.cellm (by assumption))
  trivial
example : True := by
  k_with "mine now" =>
    unfold g_stF
    dsimp only
    k_fill
    set_option tactic.hygienic false in intros
    obtain ⟨z, t1, t2, t3, t4, nq, hsy0, hz0⟩ := hnum
    have hsy := hsy0.1
    have hz := hz0.1
    have hcc := G1.cur
    have hf4 := hf5.mono (show 100 ≤ 400 by decide)
    have hf3 := hf5.mono (show 100 ≤ 300 by decide)
    rename News _ _ _ _ => N9
    replace N9 := News.tail N9
    obtain rfl : way = 6 := by assumption
    rcases isOpt_shape hc1 with ⟨ec, rfl⟩ | ⟨ci, ct, ec, rfl⟩
    · repeat' (walk_at "mine step")
      exact ArmPost.intro (by assumption) (by assumption) R5 kp5 G1.later H1 hc1 rfl (fun _ _ _ _ => rfl)
    · obtain ⟨ro, jrw, hr0⟩ := R5.rw
      have hr1 : RowsO PP w (fun p => p ∈ nx5) ro σ.R := hr0.mono fun p hp => hp.1
      have lo1 := R5.st.lows.2.2.2.2.2
      have hcb : ci = 0 ∨ ci = 1 := by rw [ec] at hcc; exact hcc
      repeat' ((fail_if_success (with_reducible show wpAny _ _ (newTuple _) _ _ _)); walk_at "mine step")
      rename News _ _ _ _ => NB
      have hB := fun p hp => Heap.lt_size (NB p hp).1
      repeat' ((fail_if_success (with_reducible show wpAny _ _ (call (Value.builtin "dict.pop") _ _) _ _ _)); walk_at "mine step")
      k_here
      refine' pop_rw ?yFa ?yNa (R5.ext (fun p hp => .tail _ hp)) hf4 (Nat.le_of_ble_eq_true rfl) ⟨.head _, R5.new hB⟩ (tk2 (isOpt_int _ _) (isOpt_int _ _)) ?_
      case yFa => k_asm
      case yNa => k_asm
      k_whole
      intro pv h' tk' nx6 D6 F' N' x6 R6 hl6 hlk6
      have kp6 := (kp5.ext (fun p hp _ => List.Mem.tail _ hp)).ext x6
      obtain ⟨z', t1', t2', t3', t4', nq', hsy0', hz0'⟩ := symA_at R6.st hnm
      have hsy' := hsy0'.1
      have hz' := hz0'.1
      have jb0 := R6.st.b0.1
      have jb1 := R6.st.b1.1
      obtain ⟨es0, ns0, je0, ke0⟩ := R6.st.e0
      replace je0 := je0.1
      obtain ⟨es1, ns1, je1, ke1⟩ := R6.st.e1
      replace je1 := je1.1
      have jl0 := R6.st.l0.1
      have jl1 := R6.st.l1.1
      have jf0 := R6.st.f0.1
      have jf1 := R6.st.f1.1
      have jwd := R6.wd
      have jwo := R6.st.wo.1
      have hf6 : ({ σ with R := D6 } : Si).Fits 400 := ⟨hf4.1, hf4.2.1, hf4.2.2.1, Nat.le_trans hl6 hf4.2.2.2.1, hf4.2.2.2.2⟩
      repeat' ((fail_if_success (with_reducible show wpAny _ _ (subscriptTail _ _ _ _) _ _ _)); walk_at "mine step")
      rcases hcb with rfl | rfl
      · k_here
        refine' buf_item ?zNb0 R6 (by first | exact .inl rfl | exact .inr rfl) ?_ ?zsb0 ?zgb0
        case zNb0 => k_asm
        case zsb0 => with_unfolding_all rfl
        case zgb0 => (intro _; with_unfolding_all rfl)
        rw [show curV BB (some 0) = Value.ref BB.b0 from rfl]
        repeat' ((fail_if_success (with_reducible show wpAny _ _ (call (Value.ref _) _ _) _ _ _)); walk_at "mine step")
        k_here
        refine' kill_c ?yB6 ?yF6 ?yX6 ?yT6 rfl ?yN6 R6 hf6 (b := 0) (.inl rfl) rfl ?_
        case yF6 => k_asm
        case yB6 => exact below_caller _
        case yX6 => k_asm
        case yT6 => k_asm
        case yN6 => k_asm
        k_whole
        intro h' tk' nx7 D7 F' N' x7 R7 hl7 hlk7
        repeat' (walk_at "mine step")
        exact ArmPost.intro (by assumption) (by assumption) R7 (kp6.ext x7) (G1.arm6 hnm (.inl rfl) ec hl6 hlk6 hl7 hlk7) (H1.arm6 hlk6 hlk7 (.inl rfl)) hc1 rfl (fun _ _ _ _ => rfl)
      · k_here
        refine' buf_item ?zNb1 R6 (by first | exact .inl rfl | exact .inr rfl) ?_ ?zsb1 ?zgb1
        case zNb1 => k_asm
        case zsb1 => with_unfolding_all rfl
        case zgb1 => (intro _; with_unfolding_all rfl)
        rw [show curV BB (some 1) = Value.ref BB.b1 from rfl]
        repeat' ((fail_if_success (with_reducible show wpAny _ _ (call (Value.ref _) _ _) _ _ _)); walk_at "mine step")
        k_here
        refine' kill_c ?yB7 ?yF7 ?yX7 ?yT7 rfl ?yN7 R6 hf6 (b := 1) (.inr rfl) rfl ?_
        case yF7 => k_asm
        case yB7 => exact below_caller _
        case yX7 => k_asm
        case yT7 => k_asm
        case yN7 => k_asm
        k_whole
        intro h' tk' nx7 D7 F' N' x7 R7 hl7 hlk7
        repeat' (walk_at "mine step")
        exact ArmPost.intro (by assumption) (by assumption) R7 (kp6.ext x7) (G1.arm6 hnm (.inr rfl) ec hl6 hlk6 hl7 hlk7) (H1.arm6 hlk6 hlk7 (.inr rfl)) hc1 rfl (fun _ _ _ _ => rfl)
  trivial
theorem pa6 : g_stF.Pz5 := by
  refine GoalP.out ?_
  simp (disch := k_dflt (walk_at "mine now")) only [↓goalP_of]

end

example : True := by
  k_with_none
  k_with "mine c" => with_reducible first | assumption | exact And.left (by assumption) | exact And.left (And.right (by assumption)) | exact And.left (And.right (And.right (by assumption))) | exact And.left (And.right (And.right (And.right (by assumption)))) | exact And.left (And.right (And.right (And.right (And.right (by assumption))))) | exact And.left (And.right (And.right (And.right (And.right (And.right (by assumption)))))) | exact And.left (And.right (And.right (And.right (And.right (And.right (And.right (by assumption))))))) | exact And.left (And.right (And.right (And.right (And.right (And.right (And.right (And.right (by assumption)))))))) | exact And.left (And.right (And.right (And.right (And.right (And.right (And.right (And.right (And.right (by assumption))))))))) | exact And.left (And.right (And.right (And.right (And.right (And.right (And.right (And.right (And.right (And.right (by assumption)))))))))) | exact And.left (And.right (And.right (And.right (And.right (And.right (And.right (And.right (And.right (And.right (And.right (by assumption))))))))))) | exact And.left (And.right (And.right (And.right (And.right (And.right (And.right (And.right (And.right (And.right (And.right (And.right (by assumption)))))))))))) | exact And.left (And.right (And.right (And.right (And.right (And.right (And.right (And.right (And.right (And.right (And.right (And.right (And.right (by assumption))))))))))))) | exact And.left (And.right (And.right (And.right (And.right (And.right (And.right (And.right (And.right (And.right (And.right (And.right (And.right (And.right (by assumption)))))))))))))) | exact And.right (by assumption) | exact And.right (And.right (by assumption)) | exact And.right (And.right (And.right (by assumption))) | exact And.right (And.right (And.right (And.right (by assumption)))) | exact And.right (And.right (And.right (And.right (And.right (by assumption))))) | exact And.right (And.right (And.right (And.right (And.right (And.right (by assumption)))))) | exact And.right (And.right (And.right (And.right (And.right (And.right (And.right (by assumption)))))))
  k_with "k_all" => first | assumption | exact fun p hp => Nat.ne_of_lt (tb_ltOf (by assumption) p hp) | exact fun p hp => Nat.ne_of_gt (tb_ltOf (by assumption) p hp) | ((repeat (rename _ ∧ _ => q; cases q)); exact fun p hp => Nat.ne_of_lt (tb_ltOf (by assumption) p hp)) | ((repeat (rename _ ∧ _ => q; cases q)); exact fun p hp => Nat.ne_of_gt (tb_ltOf (by assumption) p hp))
  k_with "mine sub" => (intro p hp; (repeat first | exact hp | refine List.Mem.tail _ ?_))
  k_with "mine opt" => first | assumption | exact isOpt_none | exact isOpt_int _ _
  k_with "mine tk" => first | assumption | exact Mine.tk2 (by walk_at "mine opt") (by walk_at "mine opt")
  k_with "compareOp In ref ref" => (k_here; k_dflt (refine rows_in (by exact Nat.le_of_ble_eq_true rfl) (by k_asm) (by assumption) (by walk_at "mine sub") (by k_mem) (by assumption) (by k_mem) (by walk_at "mine tk") ?_; k_whole))
  k_with "compareOp NotIn ref ref" => (k_here; k_dflt (refine rows_notin (by exact Nat.le_of_ble_eq_true rfl) (by k_asm) (by assumption) (by walk_at "mine sub") (by k_mem) (by assumption) (by k_mem) (by walk_at "mine tk") ?_; k_whole))
  k_with "call builtin:dict.get" => (k_here; k_dflt (refine rows_get (by exact Nat.le_of_ble_eq_true rfl) (by k_asm) (by assumption) (by walk_at "mine sub") (by k_mem) (by assumption) (by k_mem) (by walk_at "mine tk") ?_; k_whole); intro v' hv')
  k_with "getMethod ref" => (k_here; (with_reducible show wpAny _ _ (getMethod (Value.ref _) _ _) _ _ _); k_dflt (refine rows_meth (by first | exact PySem.F.slot_dict_get | exact PySem.F.slot_dict_pop) (by rfl) (by k_asm) (by assumption) (by walk_at "mine sub") (by k_mem) (by assumption) ?_; k_whole))
  k_with "subscriptTail" => (k_here; (with_reducible show wpAny _ _ (subscriptTail _ _ (Value.ref _) (Value.ref _)) _ _ _); k_dflt (refine rows_itemS (by exact Nat.le_of_ble_eq_true rfl) (by k_asm) (by assumption) (by walk_at "mine sub") (by k_mem) (by assumption) (by k_mem) (by walk_at "mine tk") (by assumption) ?_ (by with_unfolding_all rfl) (by (intro _; with_unfolding_all rfl)); k_whole); intro v' d' hl' hv')
  k_with "call builtin:len" => (k_here; (with_reducible show wpAny _ _ (call (Value.builtin "len") [Value.ref _]) _ _ _); k_dflt (refine lenL (by k_asm) (by k_mem) (by omega) ?_; k_whole); intro t' tk')
  k_with "call builtin:dict.pop" => (k_here; (with_reducible show wpAny _ _ (call (Value.builtin _) [Value.ref _, Value.int _ _]) _ _ _); k_dflt (refine popI (by k_asm) (by k_asm) (by k_updF) (by assumption) (by assumption) (by assumption) (by omega) ?_; k_whole); intro h' o' v' kvs' D' F' N' hd' hf' hn' hl'; (try dsimp only at N'))
  k_with "setItem ref int" => (k_here; k_dflt (refine setItem_K PyProof.V.same_int (intKind_is _ _ _ _) (by k_flat) (by k_asm) (by k_asm) (by k_updF) (by assumption) (by assumption) ?_ (by (rw [sizeLine_eq]; omega)); ); intro h' o' F' N' hd' hf'; (try dsimp only at N'))
  k_with "call builtin:list.pop" => (k_here; k_dflt (refine pop0 (by k_asm) (by k_asm) (by k_upd) (by (have hq := IntsAre.length (by assumption); rw [sizeLine_eq]; simp only [List.length_cons] at *; omega)) ?_; k_whole); intro h' F' N'; (try dsimp only [List.nil_append, List.cons_append] at N'))
  k_with "call builtin:list.append" => (k_here; (with_reducible show wpAny _ _ (call (Value.builtin _) [Value.ref _, _]) _ _ _); k_dflt (refine appF (by k_asm) (by k_asm) (by first | omega | (simp only [List.length_append, List.length_cons, List.length_nil]; omega)) (by k_upd) ?_; k_whole); intro h' F' N'; (try dsimp only [List.nil_append, List.cons_append] at N'))
  k_with "getItem ref int" => (k_here; k_dflt (refine getItem_some PyProof.V.same_int (intKind_is _ _ _ _) (by k_tabat) (by assumption) ?_; k_whole); intro v' d' hl' hv')
  k_with "mine stat" => (rename Rep _ _ _ _ => RR; refine Rep.use RR ?_; intro hS1 hS2 hS3 oS4 hS4 kS4 hS4' hS4'' hS5 hS6 oS7 hS7 kS7 hS7' hS7'' hS8 hS9 esS10 nS10 hS10 hS10' hS11 hS12 hS13 esS14 nS14 hS14 hS14' hS15 hS16 hS17 hS18 hS19 hS20 hS21 hS22 hS23 hS24 hS25 hS26 gS1 gS2 gS3 gS4 gS5 gS6)
  k_with "mine statS" => (rename Stat _ _ _ => SS; refine Stat.use SS ?_; intro hS1 hS2 hS3 oS4 hS4 kS4 hS4' hS4'' hS5 hS6 oS7 hS7 kS7 hS7' hS7'' hS8 hS9 esS10 nS10 hS10 hS10' hS11 hS12 hS13 esS14 nS14 hS14 hS14' hS15 hS16 hS17 hS18 hS19 hS20 hS21 hS22 hS23 hS24 hS25 hS26 gS1 gS2 gS3 gS4 gS5 gS6)
  k_with "mine dyn" => (rename Rep _ _ _ _ => RR; refine Rep.dyn RR ?_; intro jS1 odS jS2 kdS jS2' jS2'' o0S jS3 k0S jS3' jS3'' o1S jS4 k1S jS4' jS4'')
  k_with "mine fr" => (intro z q1 q2; (try dsimp only); first | (rw [if_neg q1, q2]; rfl) | (have q3 := q2; simp only [List.contains_cons, List.contains_nil, Bool.or_false, Bool.or_eq_false_iff, beq_eq_false_iff_ne, ne_eq] at q3; simp only [q1, q2, q3, if_false, List.contains_nil, Bool.false_eq_true]))
  k_with "mine frw" => (intro z q2; (try dsimp only); have q3 := q2; simp only [List.contains_cons, List.contains_nil, Bool.or_false, Bool.or_eq_false_iff, beq_eq_false_iff_ne, ne_eq] at q3; simp only [q2, q3, if_false, List.contains_nil, Bool.false_eq_true])
  k_with "k_handed" => exact flat_handed (by assumption)
  k_with "k_get" => assumption
  k_with "execs cons" => (k_here; first | k_gentoks | (refine execsG ?_; intro Q' hn hr))
  k_with "k_mem" => (change (_ : Addr × Obj) ∈ (_ : List (Addr × Obj)); ktr_member)
  trivial
-- 97_a7
section
example : True := by
  k_with "k_mem" => (change (_ : Addr × Obj) ∈ (_ : List (Addr × Obj)); first | ktr_member | exact Kp.cellm (by assumption))
  trivial
example : True := by
  k_with "mine now" =>
    unfold g_stF
    dsimp only
    k_fill
    set_option tactic.hygienic false in intros
    obtain ⟨z, t1, t2, t3, t4, nq, hsy0, hz0⟩ := hnum
    have hsy := hsy0.1
    have hz := hz0.1
    have hcc := G1.cur
    have hf4 := hf5.mono (show 100 ≤ 400 by decide)
    have hf3 := hf5.mono (show 100 ≤ 300 by decide)
    rename News _ _ _ _ => N9
    replace N9 := News.tail N9
    obtain ⟨vk, ck, jkp, hk0⟩ := R5.kp
    have hlk := hk0.length
    have hlk2 : vk.length ≤ 100 := by have := hf5.2.2.2.2.1; omega
    repeat' ((fail_if_success (with_reducible show wpAny _ _ (call (Value.ref _) _ _) _ _ _)); walk_at "mine step")
    obtain ⟨d, hd, hdl⟩ : ∃ d : Nat, vz.fmod ((vk.length : Int) + 1) = (d : Int) ∧ d ≤ σ.K.length := by
      have h1 := Int.fmod_nonneg_of_pos vz (show (0:Int) < (vk.length : Int) + 1 by omega)
      have h2 := Int.fmod_lt_of_pos vz (show (0:Int) < (vk.length : Int) + 1 by omega)
      exact ⟨(vz.fmod ((vk.length : Int) + 1)).toNat, by omega, by omega⟩
    rename Fr _ _ _ _ => F7
    rw [hd] at F7 ⊢
    k_here
    refine' lun_c ?yB4 ?yF4 ?yX4 ?yT4 rfl ?yN4 R5 hf5 hdl ?_
    case yF4 => k_asm
    case yB4 => exact below_caller _
    case yX4 => k_asm
    case yT4 => k_asm
    case yN4 => k_asm
    k_whole
    intro h' tk' nx6 F' N' x6 R6
    have kp6 := kp5.ext x6
    have hf6 : ({ σ with K := σ.K.take d, R := (σ.K.drop d).reverse.foldl bkR σ.R } : Si).Fits 100 := G1.fits7 (by omega) d
    have jsk := R6.st.sk.1
    have jsd := R6.st.sd.1
    repeat' ((fail_if_success (with_reducible show wpAny _ _ (call (Value.ref _) _ _) _ _ _)); walk_at "mine step")
    k_here
    refine' unto_c ?yB5 ?yF5 ?yX5 ?yT5 rfl ?yN5 R6 hf6 (by rw [← G1.ks]; exact hdl) (fun k hk => (G1.kc k (by rw [G1.ks]; exact hk)).1) ?_
    case yF5 => k_asm
    case yB5 => exact below_caller _
    case yX5 => k_asm
    case yT5 => k_asm
    case yN5 => k_asm
    k_whole
    intro h' tk' nx7 F' N' x7 R7
    repeat' (walk_at "mine step")
    exact ArmPost.intro (by assumption) (by assumption) R7 (kp6.ext x7) (G1.arm7 (by omega) d) (H1.arm7 G1 d) (by show isOpt (Si.cur (List.foldl Si.bk _ _)) _ = true; rw [(Si.bks_same _ _).2.2.2]; exact hc1) rfl (fun y q1 q2 q3 => if_neg q3)
  trivial
theorem pa7 : g_stF.Pz6 := by
  refine GoalP.out ?_
  simp (disch := k_dflt (walk_at "mine now")) only [↓goalP_of]

end

example : True := by
  k_with_none
  k_with "mine c" => with_reducible first | assumption | exact And.left (by assumption) | exact And.left (And.right (by assumption)) | exact And.left (And.right (And.right (by assumption))) | exact And.left (And.right (And.right (And.right (by assumption)))) | exact And.left (And.right (And.right (And.right (And.right (by assumption))))) | exact And.left (And.right (And.right (And.right (And.right (And.right (by assumption)))))) | exact And.left (And.right (And.right (And.right (And.right (And.right (And.right (by assumption))))))) | exact And.left (And.right (And.right (And.right (And.right (And.right (And.right (And.right (by assumption)))))))) | exact And.left (And.right (And.right (And.right (And.right (And.right (And.right (And.right (And.right (by assumption))))))))) | exact And.left (And.right (And.right (And.right (And.right (And.right (And.right (And.right (And.right (And.right (by assumption)))))))))) | exact And.left (And.right (And.right (And.right (And.right (And.right (And.right (And.right (And.right (And.right (And.right (by assumption))))))))))) | exact And.left (And.right (And.right (And.right (And.right (And.right (And.right (And.right (And.right (And.right (And.right (And.right (by assumption)))))))))))) | exact And.left (And.right (And.right (And.right (And.right (And.right (And.right (And.right (And.right (And.right (And.right (And.right (And.right (by assumption))))))))))))) | exact And.left (And.right (And.right (And.right (And.right (And.right (And.right (And.right (And.right (And.right (And.right (And.right (And.right (And.right (by assumption)))))))))))))) | exact And.right (by assumption) | exact And.right (And.right (by assumption)) | exact And.right (And.right (And.right (by assumption))) | exact And.right (And.right (And.right (And.right (by assumption)))) | exact And.right (And.right (And.right (And.right (And.right (by assumption))))) | exact And.right (And.right (And.right (And.right (And.right (And.right (by assumption)))))) | exact And.right (And.right (And.right (And.right (And.right (And.right (And.right (by assumption)))))))
  k_with "k_all" => first | assumption | exact fun p hp => Nat.ne_of_lt (tb_ltOf (by assumption) p hp) | exact fun p hp => Nat.ne_of_gt (tb_ltOf (by assumption) p hp) | ((repeat (rename _ ∧ _ => q; cases q)); exact fun p hp => Nat.ne_of_lt (tb_ltOf (by assumption) p hp)) | ((repeat (rename _ ∧ _ => q; cases q)); exact fun p hp => Nat.ne_of_gt (tb_ltOf (by assumption) p hp))
  k_with "mine sub" => (intro p hp; (repeat first | exact hp | refine List.Mem.tail _ ?_))
  k_with "mine opt" => first | assumption | exact isOpt_none | exact isOpt_int _ _
  k_with "mine tk" => first | assumption | exact Mine.tk2 (by walk_at "mine opt") (by walk_at "mine opt")
  k_with "compareOp In ref ref" => (k_here; k_dflt (refine rows_in (by exact Nat.le_of_ble_eq_true rfl) (by k_asm) (by assumption) (by walk_at "mine sub") (by k_mem) (by assumption) (by k_mem) (by walk_at "mine tk") ?_; k_whole))
  k_with "compareOp NotIn ref ref" => (k_here; k_dflt (refine rows_notin (by exact Nat.le_of_ble_eq_true rfl) (by k_asm) (by assumption) (by walk_at "mine sub") (by k_mem) (by assumption) (by k_mem) (by walk_at "mine tk") ?_; k_whole))
  k_with "call builtin:dict.get" => (k_here; k_dflt (refine rows_get (by exact Nat.le_of_ble_eq_true rfl) (by k_asm) (by assumption) (by walk_at "mine sub") (by k_mem) (by assumption) (by k_mem) (by walk_at "mine tk") ?_; k_whole); intro v' hv')
  k_with "getMethod ref" => (k_here; (with_reducible show wpAny _ _ (getMethod (Value.ref _) _ _) _ _ _); k_dflt (refine rows_meth (by first | exact PySem.F.slot_dict_get | exact PySem.F.slot_dict_pop) (by rfl) (by k_asm) (by assumption) (by walk_at "mine sub") (by k_mem) (by assumption) ?_; k_whole))
  k_with "subscriptTail" => (k_here; (with_reducible show wpAny _ _ (subscriptTail _ _ (Value.ref _) (Value.ref _)) _ _ _); k_dflt (refine rows_itemS (by exact Nat.le_of_ble_eq_true rfl) (by k_asm) (by assumption) (by walk_at "mine sub") (by k_mem) (by assumption) (by k_mem) (by walk_at "mine tk") (by assumption) ?_ (by with_unfolding_all rfl) (by (intro _; with_unfolding_all rfl)); k_whole); intro v' d' hl' hv')
  k_with "call builtin:len" => (k_here; (with_reducible show wpAny _ _ (call (Value.builtin "len") [Value.ref _]) _ _ _); k_dflt (refine lenL (by k_asm) (by k_mem) (by omega) ?_; k_whole); intro t' tk')
  k_with "call builtin:dict.pop" => (k_here; (with_reducible show wpAny _ _ (call (Value.builtin _) [Value.ref _, Value.int _ _]) _ _ _); k_dflt (refine popI (by k_asm) (by k_asm) (by k_updF) (by assumption) (by assumption) (by assumption) (by omega) ?_; k_whole); intro h' o' v' kvs' D' F' N' hd' hf' hn' hl'; (try dsimp only at N'))
  k_with "setItem ref int" => (k_here; k_dflt (refine setItem_K PyProof.V.same_int (intKind_is _ _ _ _) (by k_flat) (by k_asm) (by k_asm) (by k_updF) (by assumption) (by assumption) ?_ (by (rw [sizeLine_eq]; omega)); ); intro h' o' F' N' hd' hf'; (try dsimp only at N'))
  k_with "call builtin:list.pop" => (k_here; k_dflt (refine pop0 (by k_asm) (by k_asm) (by k_upd) (by (have hq := IntsAre.length (by assumption); rw [sizeLine_eq]; simp only [List.length_cons] at *; omega)) ?_; k_whole); intro h' F' N'; (try dsimp only [List.nil_append, List.cons_append] at N'))
  k_with "call builtin:list.append" => (k_here; (with_reducible show wpAny _ _ (call (Value.builtin _) [Value.ref _, _]) _ _ _); k_dflt (refine appF (by k_asm) (by k_asm) (by first | omega | (simp only [List.length_append, List.length_cons, List.length_nil]; omega)) (by k_upd) ?_; k_whole); intro h' F' N'; (try dsimp only [List.nil_append, List.cons_append] at N'))
  k_with "getItem ref int" => (k_here; k_dflt (refine getItem_some PyProof.V.same_int (intKind_is _ _ _ _) (by k_tabat) (by assumption) ?_; k_whole); intro v' d' hl' hv')
  k_with "mine stat" => (rename Rep _ _ _ _ => RR; refine Rep.use RR ?_; intro hS1 hS2 hS3 oS4 hS4 kS4 hS4' hS4'' hS5 hS6 oS7 hS7 kS7 hS7' hS7'' hS8 hS9 esS10 nS10 hS10 hS10' hS11 hS12 hS13 esS14 nS14 hS14 hS14' hS15 hS16 hS17 hS18 hS19 hS20 hS21 hS22 hS23 hS24 hS25 hS26 gS1 gS2 gS3 gS4 gS5 gS6)
  k_with "mine statS" => (rename Stat _ _ _ => SS; refine Stat.use SS ?_; intro hS1 hS2 hS3 oS4 hS4 kS4 hS4' hS4'' hS5 hS6 oS7 hS7 kS7 hS7' hS7'' hS8 hS9 esS10 nS10 hS10 hS10' hS11 hS12 hS13 esS14 nS14 hS14 hS14' hS15 hS16 hS17 hS18 hS19 hS20 hS21 hS22 hS23 hS24 hS25 hS26 gS1 gS2 gS3 gS4 gS5 gS6)
  k_with "mine dyn" => (rename Rep _ _ _ _ => RR; refine Rep.dyn RR ?_; intro jS1 odS jS2 kdS jS2' jS2'' o0S jS3 k0S jS3' jS3'' o1S jS4 k1S jS4' jS4'')
  k_with "mine fr" => (intro z q1 q2; (try dsimp only); first | (rw [if_neg q1, q2]; rfl) | (have q3 := q2; simp only [List.contains_cons, List.contains_nil, Bool.or_false, Bool.or_eq_false_iff, beq_eq_false_iff_ne, ne_eq] at q3; simp only [q1, q2, q3, if_false, List.contains_nil, Bool.false_eq_true]))
  k_with "mine frw" => (intro z q2; (try dsimp only); have q3 := q2; simp only [List.contains_cons, List.contains_nil, Bool.or_false, Bool.or_eq_false_iff, beq_eq_false_iff_ne, ne_eq] at q3; simp only [q2, q3, if_false, List.contains_nil, Bool.false_eq_true])
  k_with "k_handed" => exact flat_handed (by assumption)
  k_with "k_get" => assumption
  k_with "execs cons" => (k_here; first | k_gentoks | (refine execsG ?_; intro Q' hn hr))
  k_with "k_mem" => (change (_ : Addr × Obj) ∈ (_ : List (Addr × Obj)); ktr_member)
  trivial
-- 98_rest
section
example : True := by
  k_with "k_mem" => (change (_ : Addr × Obj) ∈ (_ : List (Addr × Obj)); first | ktr_member | exact Kp.cellm (by assumption))
  trivial
example : True := by
  k_with "mine now" =>
    unfold g_stF
    dsimp only
    k_fill
    set_option tactic.hygienic false in intros
    rename Agree (i + 1) _ => G2
    rename Held _ => H2
    rename Rep _ _ _ _ => R6
    rename Kp _ _ _ _ _ _ => kp6
    rename isOpt _ _ = true => hc2
    have hf6 := G2.fits.mono (show 10 * (i + 1) ≤ 100 by omega)
    have jsk := R6.st.sk.1
    have jsd := R6.st.sd.1
    obtain ⟨vk, ck, jkp, hk0⟩ := R6.kp
    have hlk := hk0.length
    have hlk2 : vk.length ≤ 100 := by have := hf6.2.2.2.2.1; omega
    (try dsimp only)
    repeat' ((fail_if_success (with_reducible show wpAny _ _ (call (Value.ref _) _ _) _ _ _)); walk_at "mine step")
    k_here
    refine' depth_c ?yB ?yF ?yX ?yT rfl ?yN R6 hf6 ?_
    case yF => k_asm
    case yB => exact below_caller _
    case yX => k_asm
    case yT => k_asm
    case yN => k_asm
    k_whole
    rw [show (_ : Si).S.length = vk.length from by rw [hlk, G2.ks]]
    intro td h' tk' F' N'
    repeat' ((fail_if_success (with_reducible show wpAny _ _ (call (Value.ref _) _ _) _ _ _)); (fail_if_success (with_reducible show FPost2 _ _ _ _ _ _ _ _ _ _ _ _)); walk_at "mine step")
    · exact absurd rfl (by assumption)
    · skip
      repeat' ((fail_if_success (with_reducible show wpAny _ _ (call (Value.ref _) _ _) _ _ _)); walk_at "mine step")
      k_here
      refine' all_c ?yB21 ?yF21 ?yX21 ?yT21 rfl ?yN21 R6 ?_
      case yF21 => k_asm
      case yB21 => exact below_caller _
      case yX21 => k_asm
      case yT21 => k_asm
      case yN21 => k_asm
      k_whole
      intro lb1 vs1 n1 h' tk' F' N' fl1
      have R7 : Rep w BB _ ((lb1, W.listOf vs1.toArray n1) :: nx') := R6.ext (fun p hp => .tail _ hp)
      have kp7 := kp6.ext (nx' := (lb1, W.listOf vs1.toArray n1) :: nx') (fun p hp _ => .tail _ hp)
      repeat' ((fail_if_success (with_reducible show wpAny _ _ (call (Value.ref _) _ _) _ _ _)); walk_at "mine step")
      k_here
      refine' rows_c ?yB22 ?yF22 ?yX22 ?yT22 rfl ?yN22 R7 ?_
      case yF22 => k_asm
      case yB22 => exact below_caller _
      case yX22 => k_asm
      case yT22 => k_asm
      case yN22 => k_asm
      k_whole
      intro lb2 vs2 n2 h' tk' F' N' fl2
      rw [G2.core.rows 3 (Nat.le_refl _)] at fl1
      repeat' ((fail_if_success (with_reducible show wpAny _ _ (compareOp _ _ _) _ _ _)); walk_at "mine step")
      k_here
      refine' cmp_ne ?yNc ?yma ?ymb fl1 fl2 (H2.rows 3) (Nat.le_of_ble_eq_true rfl) ?_
      case yNc => k_asm
      case yma => k_mem
      case ymb => k_mem
      repeat' (walk_at "mine step")
      rename News _ _ _ _ => N9
      rename Fr _ _ _ _ => F9
      have N6 := News.tail (News.tail N9)
      subst hB
      refine FPost2.intro F9 (News.cons1 (N6 _ kp6.it) (butL_news (fp := [I]) N6)) rfl ?_ ⟨_, Rep.out R6 hoff, G2, H2, hc2, PS.out hoff _ _ kp6.cell, fun p hp q => (mem_butL.mp hp).2 (List.mem_singleton.mpr q)⟩
      intro z q1 q2 q3
      have q4 := q3
      simp only [List.contains_cons, List.contains_nil, Bool.or_false, Bool.or_eq_false_iff, beq_eq_false_iff_ne, ne_eq] at q4
      obtain ⟨a1, a2, a3, a4, a5, a6⟩ := q4
      rw [if_neg q2, if_neg a5, if_neg a6, if_neg a4, if_neg a1, if_neg a2, if_neg a3, if_neg q1, if_neg q2, q3]
      rfl
  trivial
theorem stG : g_stF.Pz7 := by
  refine GoalP.out ?_
  simp (disch := k_dflt (walk_at "mine now")) only [↓goalP_of]

end

example : True := by
  k_with_none
  k_with "mine c" => with_reducible first | assumption | exact And.left (by assumption) | exact And.left (And.right (by assumption)) | exact And.left (And.right (And.right (by assumption))) | exact And.left (And.right (And.right (And.right (by assumption)))) | exact And.left (And.right (And.right (And.right (And.right (by assumption))))) | exact And.left (And.right (And.right (And.right (And.right (And.right (by assumption)))))) | exact And.left (And.right (And.right (And.right (And.right (And.right (And.right (by assumption))))))) | exact And.left (And.right (And.right (And.right (And.right (And.right (And.right (And.right (by assumption)))))))) | exact And.left (And.right (And.right (And.right (And.right (And.right (And.right (And.right (And.right (by assumption))))))))) | exact And.left (And.right (And.right (And.right (And.right (And.right (And.right (And.right (And.right (And.right (by assumption)))))))))) | exact And.left (And.right (And.right (And.right (And.right (And.right (And.right (And.right (And.right (And.right (And.right (by assumption))))))))))) | exact And.left (And.right (And.right (And.right (And.right (And.right (And.right (And.right (And.right (And.right (And.right (And.right (by assumption)))))))))))) | exact And.left (And.right (And.right (And.right (And.right (And.right (And.right (And.right (And.right (And.right (And.right (And.right (And.right (by assumption))))))))))))) | exact And.left (And.right (And.right (And.right (And.right (And.right (And.right (And.right (And.right (And.right (And.right (And.right (And.right (And.right (by assumption)))))))))))))) | exact And.right (by assumption) | exact And.right (And.right (by assumption)) | exact And.right (And.right (And.right (by assumption))) | exact And.right (And.right (And.right (And.right (by assumption)))) | exact And.right (And.right (And.right (And.right (And.right (by assumption))))) | exact And.right (And.right (And.right (And.right (And.right (And.right (by assumption)))))) | exact And.right (And.right (And.right (And.right (And.right (And.right (And.right (by assumption)))))))
  k_with "k_all" => first | assumption | exact fun p hp => Nat.ne_of_lt (tb_ltOf (by assumption) p hp) | exact fun p hp => Nat.ne_of_gt (tb_ltOf (by assumption) p hp) | ((repeat (rename _ ∧ _ => q; cases q)); exact fun p hp => Nat.ne_of_lt (tb_ltOf (by assumption) p hp)) | ((repeat (rename _ ∧ _ => q; cases q)); exact fun p hp => Nat.ne_of_gt (tb_ltOf (by assumption) p hp))
  k_with "mine sub" => (intro p hp; (repeat first | exact hp | refine List.Mem.tail _ ?_))
  k_with "mine opt" => first | assumption | exact isOpt_none | exact isOpt_int _ _
  k_with "mine tk" => first | assumption | exact Mine.tk2 (by walk_at "mine opt") (by walk_at "mine opt")
  k_with "compareOp In ref ref" => (k_here; k_dflt (refine rows_in (by exact Nat.le_of_ble_eq_true rfl) (by k_asm) (by assumption) (by walk_at "mine sub") (by k_mem) (by assumption) (by k_mem) (by walk_at "mine tk") ?_; k_whole))
  k_with "compareOp NotIn ref ref" => (k_here; k_dflt (refine rows_notin (by exact Nat.le_of_ble_eq_true rfl) (by k_asm) (by assumption) (by walk_at "mine sub") (by k_mem) (by assumption) (by k_mem) (by walk_at "mine tk") ?_; k_whole))
  k_with "call builtin:dict.get" => (k_here; k_dflt (refine rows_get (by exact Nat.le_of_ble_eq_true rfl) (by k_asm) (by assumption) (by walk_at "mine sub") (by k_mem) (by assumption) (by k_mem) (by walk_at "mine tk") ?_; k_whole); intro v' hv')
  k_with "getMethod ref" => (k_here; (with_reducible show wpAny _ _ (getMethod (Value.ref _) _ _) _ _ _); k_dflt (refine rows_meth (by first | exact PySem.F.slot_dict_get | exact PySem.F.slot_dict_pop) (by rfl) (by k_asm) (by assumption) (by walk_at "mine sub") (by k_mem) (by assumption) ?_; k_whole))
  k_with "subscriptTail" => (k_here; (with_reducible show wpAny _ _ (subscriptTail _ _ (Value.ref _) (Value.ref _)) _ _ _); k_dflt (refine rows_itemS (by exact Nat.le_of_ble_eq_true rfl) (by k_asm) (by assumption) (by walk_at "mine sub") (by k_mem) (by assumption) (by k_mem) (by walk_at "mine tk") (by assumption) ?_ (by with_unfolding_all rfl) (by (intro _; with_unfolding_all rfl)); k_whole); intro v' d' hl' hv')
  k_with "call builtin:len" => (k_here; (with_reducible show wpAny _ _ (call (Value.builtin "len") [Value.ref _]) _ _ _); k_dflt (refine lenL (by k_asm) (by k_mem) (by omega) ?_; k_whole); intro t' tk')
  k_with "call builtin:dict.pop" => (k_here; (with_reducible show wpAny _ _ (call (Value.builtin _) [Value.ref _, Value.int _ _]) _ _ _); k_dflt (refine popI (by k_asm) (by k_asm) (by k_updF) (by assumption) (by assumption) (by assumption) (by omega) ?_; k_whole); intro h' o' v' kvs' D' F' N' hd' hf' hn' hl'; (try dsimp only at N'))
  k_with "setItem ref int" => (k_here; k_dflt (refine setItem_K PyProof.V.same_int (intKind_is _ _ _ _) (by k_flat) (by k_asm) (by k_asm) (by k_updF) (by assumption) (by assumption) ?_ (by (rw [sizeLine_eq]; omega)); ); intro h' o' F' N' hd' hf'; (try dsimp only at N'))
  k_with "call builtin:list.pop" => (k_here; k_dflt (refine pop0 (by k_asm) (by k_asm) (by k_upd) (by (have hq := IntsAre.length (by assumption); rw [sizeLine_eq]; simp only [List.length_cons] at *; omega)) ?_; k_whole); intro h' F' N'; (try dsimp only [List.nil_append, List.cons_append] at N'))
  k_with "call builtin:list.append" => (k_here; (with_reducible show wpAny _ _ (call (Value.builtin _) [Value.ref _, _]) _ _ _); k_dflt (refine appF (by k_asm) (by k_asm) (by first | omega | (simp only [List.length_append, List.length_cons, List.length_nil]; omega)) (by k_upd) ?_; k_whole); intro h' F' N'; (try dsimp only [List.nil_append, List.cons_append] at N'))
  k_with "getItem ref int" => (k_here; k_dflt (refine getItem_some PyProof.V.same_int (intKind_is _ _ _ _) (by k_tabat) (by assumption) ?_; k_whole); intro v' d' hl' hv')
  k_with "mine stat" => (rename Rep _ _ _ _ => RR; refine Rep.use RR ?_; intro hS1 hS2 hS3 oS4 hS4 kS4 hS4' hS4'' hS5 hS6 oS7 hS7 kS7 hS7' hS7'' hS8 hS9 esS10 nS10 hS10 hS10' hS11 hS12 hS13 esS14 nS14 hS14 hS14' hS15 hS16 hS17 hS18 hS19 hS20 hS21 hS22 hS23 hS24 hS25 hS26 gS1 gS2 gS3 gS4 gS5 gS6)
  k_with "mine statS" => (rename Stat _ _ _ => SS; refine Stat.use SS ?_; intro hS1 hS2 hS3 oS4 hS4 kS4 hS4' hS4'' hS5 hS6 oS7 hS7 kS7 hS7' hS7'' hS8 hS9 esS10 nS10 hS10 hS10' hS11 hS12 hS13 esS14 nS14 hS14 hS14' hS15 hS16 hS17 hS18 hS19 hS20 hS21 hS22 hS23 hS24 hS25 hS26 gS1 gS2 gS3 gS4 gS5 gS6)
  k_with "mine dyn" => (rename Rep _ _ _ _ => RR; refine Rep.dyn RR ?_; intro jS1 odS jS2 kdS jS2' jS2'' o0S jS3 k0S jS3' jS3'' o1S jS4 k1S jS4' jS4'')
  k_with "mine fr" => (intro z q1 q2; (try dsimp only); first | (rw [if_neg q1, q2]; rfl) | (have q3 := q2; simp only [List.contains_cons, List.contains_nil, Bool.or_false, Bool.or_eq_false_iff, beq_eq_false_iff_ne, ne_eq] at q3; simp only [q1, q2, q3, if_false, List.contains_nil, Bool.false_eq_true]))
  k_with "mine frw" => (intro z q2; (try dsimp only); have q3 := q2; simp only [List.contains_cons, List.contains_nil, Bool.or_false, Bool.or_eq_false_iff, beq_eq_false_iff_ne, ne_eq] at q3; simp only [q2, q3, if_false, List.contains_nil, Bool.false_eq_true])
  k_with "k_handed" => exact flat_handed (by assumption)
  k_with "k_get" => assumption
  k_with "execs cons" => (k_here; first | k_gentoks | (refine execsG ?_; intro Q' hn hr))
  k_with "k_mem" => (change (_ : Addr × Obj) ∈ (_ : List (Addr × Obj)); ktr_member)
  trivial
-- 99_end
section
example : True := by
  k_with "k_mem" => (change (_ : Addr × Obj) ∈ (_ : List (Addr × Obj)); first | ktr_member | exact PS.memE (by assumption))
  trivial
noncomputable def g_stH : G1 g_stE.Pz2 := by
  apply G1.mk
  case impz =>
    intro hp1
    unfold g_stE
    dsimp only
    k_fill
    set_option tactic.hygienic false in intros
    rename (∃ σ, _) => hJ
    obtain ⟨σ, R1, G1, H1, hc1, pc1, ho1⟩ := hJ
    have hf1 := G1.fits.mono (show 10 * 8 ≤ 100 by decide)
    have jsk := R1.st.sk.1
    have jsd := R1.st.sd.1
    (try dsimp only)
    repeat' ((fail_if_success (with_reducible show wpAny _ _ (call (Value.ref _) _ _) _ _ _)); walk_at "mine step")
    k_here
    refine' lun_z ?yB41 ?yF41 ?yX41 ?yT41 rfl ?yN41 R1 hf1 ?_
    case yF41 => k_asm
    case yB41 => exact below_caller _
    case yX41 => k_asm
    case yT41 => k_asm
    case yN41 => k_asm
    k_whole
    intro h' tk' nx2 F' N' x2 R2
    have pc2 := x2.ps _ _ pc1
    have hf2 := G1.fits7 (by decide) 0
    have jsk2 := R2.st.sk.1
    have jsd2 := R2.st.sd.1
    repeat' ((fail_if_success (with_reducible show wpAny _ _ (call (Value.ref _) _ _) _ _ _)); walk_at "mine step")
    k_here
    refine' unto_z ?yB42 ?yF42 ?yX42 ?yT42 rfl ?yN42 R2 hf2 (fun k hk => (G1.kc k (by rw [G1.ks]; exact hk)).1) ?_
    case yF42 => k_asm
    case yB42 => exact below_caller _
    case yX42 => k_asm
    case yT42 => k_asm
    case yN42 => k_asm
    k_whole
    intro h' tk' nx3 F' N' x3 R3
    have pc3 := x3.ps _ _ pc2
    have G3 := G1.arm7 (by decide) 0
    have H3 := H1.arm7 G1 0
    have hf3 := G3.fits.mono (show 10 * (8 + 1) ≤ 100 by decide)
    repeat' ((fail_if_success (with_reducible show wpAny _ _ (call (Value.ref _) _ _) _ _ _)); walk_at "mine step")
    k_here
    refine' all_c ?yB43 ?yF43 ?yX43 ?yT43 rfl ?yN43 R3 ?_
    case yF43 => k_asm
    case yB43 => exact below_caller _
    case yX43 => k_asm
    case yT43 => k_asm
    case yN43 => k_asm
    k_whole
    intro lb1 vs1 n1 h' tk' F' N' fl1
    have R4 : Rep w A _ ((lb1, W.listOf vs1.toArray n1) :: nx3) := R3.ext (fun p hp => .tail _ hp)
    repeat' ((fail_if_success (with_reducible show wpAny _ _ (call (Value.ref _) _ _) _ _ _)); walk_at "mine step")
    k_here
    refine' rows_c ?yB44 ?yF44 ?yX44 ?yT44 rfl ?yN44 R4 ?_
    case yF44 => k_asm
    case yB44 => exact below_caller _
    case yX44 => k_asm
    case yT44 => k_asm
    case yN44 => k_asm
    k_whole
    intro lb2 vs2 n2 h' tk' F' N' fl2
    rw [G3.core.rows 3 (Nat.le_refl _)] at fl1
    repeat' ((fail_if_success (with_reducible show wpAny _ _ (compareOp _ _ _) _ _ _)); walk_at "mine step")
    k_here
    refine' cmp_ne ?yNc ?yma ?ymb fl1 fl2 (H3.rows 3) (Nat.le_of_ble_eq_true rfl) ?_
    case yNc => k_asm
    case yma => k_mem
    case ymb => k_mem
    rename News _ _ _ _ => N9
    have N10 := News.tail (News.tail N9)
    clear N9
    have jsk3 := R3.st.sk.1
    have jsd3 := R3.st.sd.1
    repeat' ((fail_if_success (with_reducible show wpAny _ _ (call (Value.ref _) _ _) _ _ _)); walk_at "mine step")
    k_here
    refine' depth_z ?yB45 ?yF45 ?yX45 ?yT45 rfl ?yN45 R3 hf3 rfl ?_
    case yF45 => k_asm
    case yB45 => exact below_caller _
    case yX45 => k_asm
    case yT45 => k_asm
    case yN45 => k_asm
    k_whole
    intro td h' tk' F' N'
    repeat' ((fail_if_success (with_reducible show wpAny _ _ (exec (Stmt.For _ _ _ _ _) _) _ _ _)); walk_at "mine step")
    (rename_i h'_38 tk'_18 tk_7 N'_1 F'_1 Q'_12 hn_12 hr_15 Q'_13 hn_13 hr_16 h'_39 tk'_19 F'_2 N'_2 Q'_14 hn_14 hr_17 h'_40 tk'_20 F'_3 N'_3 Q'_15 hn_15 hr_18 h'_41 tk'_21 F'_4 N'_4 h'_42 tk'_22 F'_5; revert d kwd w qA qA_1 mg mb fa o pm doc w_1 w_2 w_3 w_4 w_5 hlay0 hr_1 hl2 w_6 w_7 w_8 w_9 w_10 hcond'_1 qA_2 qA_3 w_11 Q'_1 g'_2 L' h'_7 tk_1 Q'_2 ws' h'_1 g'_1 ys h'_2 tk'_2 Q'_3 h'_3 tk'_1 t' h'_4 h'_5 h'_6 se ce ws0 Q'_4 wd ob obd orw onm cc ccx fn pl va vd dd au pe ba bd bv o1 o2 o3 o4 o5 o6 o7 t1 t2 t3 t4 t5 t6 t7 t8 t9 u1 u2 u3 u4 u5 u6 u7 u8 u9 h'_8 tk'_3 h'_9 o' Q'_5 b0 e0 tx0 mk0 ls0 a0_0 a1_0 a2_0 a3_0 a4_0 b4_0 a5_0 b5_0 a6_0 b6_0 a7_0 a8_0 a9_0 a10_0 b10_0 a11_0 b11_0 a12_0 b12_0 a13_0 a14_0 a15_0 a16_0 a17_0 a18_0 a19_0 h'_10 tk'_4 b1 e1 tx1 mk1 ls1 a0_1 a1_1 a2_1 a3_1 a4_1 b4_1 a5_1 b5_1 a6_1 b6_1 a7_1 a8_1 a9_1 a10_1 b10_1 a11_1 b11_1 a12_1 b12_1 a13_1 a14_1 a15_1 a16_1 a17_1 a18_1 a19_1 h'_11 tk'_5 h'_13 h'_12 tk_2 Q'_6 i' it' h'_14 tk'_6 Q'_7 lo0 f0 v0 ov0 tl0 h'_15 tk'_7 h'_16 tk_3 it'_1 h'_17 tk'_8 Q'_8 lo1 f1 v1 ov1 tl1 h'_20 tk'_10 h'_18 tk_4 h'_19 tk'_9 nx Q'_9 D' h'_21 g' I' oI' C' oC' D'_1 m' h'_22 tk'_11 E' sy0 z0 oo0 kv0 x10 x20 x30 x40 h'_23 tk'_12 I'_1 oI'_1 C'_1 oC'_1 D'_2 m'_1 h'_24 tk'_13 E'_1 sy1 z1 oo1 kv1 x11 x21 x31 x41 h'_25 tk'_14 I'_2 oI'_2 C'_2 oC'_2 D'_3 m'_2 h'_26 tk'_15 E'_2 sy2 z2 oo2 kv2 x12 x22 x32 x42 h'_28 tk'_17 h'_27 tk'_16 Q'_10 sd sr ts1 ts2 h'_38 tk'_18 h'_29 tk_7 Q'_11 h'_30 o_1 a_2 a_4 h'_31 D'_4 h'_32 h'_33 h'_34 h'_35 h'_36 ro nz A Q'_12 h'_37 tk_5 qE qE_1 qE_2 I u c nx_1 h tk_6 σ Q'_13 h'_39 tk'_19 nx2 Q'_14 h'_40 tk'_20 nx3 Q'_15 lb1 vs1 n1 h'_41 tk'_21 lb2 vs2 n2 h'_42 tk'_22 td h' tk' tk Q'; (repeat revert ‹_›); intro hp1; exact hp1.out)
end

example : True := by
  k_with_none
  k_with "mine c" => with_reducible first | assumption | exact And.left (by assumption) | exact And.left (And.right (by assumption)) | exact And.left (And.right (And.right (by assumption))) | exact And.left (And.right (And.right (And.right (by assumption)))) | exact And.left (And.right (And.right (And.right (And.right (by assumption))))) | exact And.left (And.right (And.right (And.right (And.right (And.right (by assumption)))))) | exact And.left (And.right (And.right (And.right (And.right (And.right (And.right (by assumption))))))) | exact And.left (And.right (And.right (And.right (And.right (And.right (And.right (And.right (by assumption)))))))) | exact And.left (And.right (And.right (And.right (And.right (And.right (And.right (And.right (And.right (by assumption))))))))) | exact And.left (And.right (And.right (And.right (And.right (And.right (And.right (And.right (And.right (And.right (by assumption)))))))))) | exact And.left (And.right (And.right (And.right (And.right (And.right (And.right (And.right (And.right (And.right (And.right (by assumption))))))))))) | exact And.left (And.right (And.right (And.right (And.right (And.right (And.right (And.right (And.right (And.right (And.right (And.right (by assumption)))))))))))) | exact And.left (And.right (And.right (And.right (And.right (And.right (And.right (And.right (And.right (And.right (And.right (And.right (And.right (by assumption))))))))))))) | exact And.left (And.right (And.right (And.right (And.right (And.right (And.right (And.right (And.right (And.right (And.right (And.right (And.right (And.right (by assumption)))))))))))))) | exact And.right (by assumption) | exact And.right (And.right (by assumption)) | exact And.right (And.right (And.right (by assumption))) | exact And.right (And.right (And.right (And.right (by assumption)))) | exact And.right (And.right (And.right (And.right (And.right (by assumption))))) | exact And.right (And.right (And.right (And.right (And.right (And.right (by assumption)))))) | exact And.right (And.right (And.right (And.right (And.right (And.right (And.right (by assumption)))))))
  k_with "k_all" => first | assumption | exact fun p hp => Nat.ne_of_lt (tb_ltOf (by assumption) p hp) | exact fun p hp => Nat.ne_of_gt (tb_ltOf (by assumption) p hp) | ((repeat (rename _ ∧ _ => q; cases q)); exact fun p hp => Nat.ne_of_lt (tb_ltOf (by assumption) p hp)) | ((repeat (rename _ ∧ _ => q; cases q)); exact fun p hp => Nat.ne_of_gt (tb_ltOf (by assumption) p hp))
  k_with "mine sub" => (intro p hp; (repeat first | exact hp | refine List.Mem.tail _ ?_))
  k_with "mine opt" => first | assumption | exact isOpt_none | exact isOpt_int _ _
  k_with "mine tk" => first | assumption | exact Mine.tk2 (by walk_at "mine opt") (by walk_at "mine opt")
  k_with "compareOp In ref ref" => (k_here; k_dflt (refine rows_in (by exact Nat.le_of_ble_eq_true rfl) (by k_asm) (by assumption) (by walk_at "mine sub") (by k_mem) (by assumption) (by k_mem) (by walk_at "mine tk") ?_; k_whole))
  k_with "compareOp NotIn ref ref" => (k_here; k_dflt (refine rows_notin (by exact Nat.le_of_ble_eq_true rfl) (by k_asm) (by assumption) (by walk_at "mine sub") (by k_mem) (by assumption) (by k_mem) (by walk_at "mine tk") ?_; k_whole))
  k_with "call builtin:dict.get" => (k_here; k_dflt (refine rows_get (by exact Nat.le_of_ble_eq_true rfl) (by k_asm) (by assumption) (by walk_at "mine sub") (by k_mem) (by assumption) (by k_mem) (by walk_at "mine tk") ?_; k_whole); intro v' hv')
  k_with "getMethod ref" => (k_here; (with_reducible show wpAny _ _ (getMethod (Value.ref _) _ _) _ _ _); k_dflt (refine rows_meth (by first | exact PySem.F.slot_dict_get | exact PySem.F.slot_dict_pop) (by rfl) (by k_asm) (by assumption) (by walk_at "mine sub") (by k_mem) (by assumption) ?_; k_whole))
  k_with "subscriptTail" => (k_here; (with_reducible show wpAny _ _ (subscriptTail _ _ (Value.ref _) (Value.ref _)) _ _ _); k_dflt (refine rows_itemS (by exact Nat.le_of_ble_eq_true rfl) (by k_asm) (by assumption) (by walk_at "mine sub") (by k_mem) (by assumption) (by k_mem) (by walk_at "mine tk") (by assumption) ?_ (by with_unfolding_all rfl) (by (intro _; with_unfolding_all rfl)); k_whole); intro v' d' hl' hv')
  k_with "call builtin:len" => (k_here; (with_reducible show wpAny _ _ (call (Value.builtin "len") [Value.ref _]) _ _ _); k_dflt (refine lenL (by k_asm) (by k_mem) (by omega) ?_; k_whole); intro t' tk')
  k_with "call builtin:dict.pop" => (k_here; (with_reducible show wpAny _ _ (call (Value.builtin _) [Value.ref _, Value.int _ _]) _ _ _); k_dflt (refine popI (by k_asm) (by k_asm) (by k_updF) (by assumption) (by assumption) (by assumption) (by omega) ?_; k_whole); intro h' o' v' kvs' D' F' N' hd' hf' hn' hl'; (try dsimp only at N'))
  k_with "setItem ref int" => (k_here; k_dflt (refine setItem_K PyProof.V.same_int (intKind_is _ _ _ _) (by k_flat) (by k_asm) (by k_asm) (by k_updF) (by assumption) (by assumption) ?_ (by (rw [sizeLine_eq]; omega)); ); intro h' o' F' N' hd' hf'; (try dsimp only at N'))
  k_with "call builtin:list.pop" => (k_here; k_dflt (refine pop0 (by k_asm) (by k_asm) (by k_upd) (by (have hq := IntsAre.length (by assumption); rw [sizeLine_eq]; simp only [List.length_cons] at *; omega)) ?_; k_whole); intro h' F' N'; (try dsimp only [List.nil_append, List.cons_append] at N'))
  k_with "call builtin:list.append" => (k_here; (with_reducible show wpAny _ _ (call (Value.builtin _) [Value.ref _, _]) _ _ _); k_dflt (refine appF (by k_asm) (by k_asm) (by first | omega | (simp only [List.length_append, List.length_cons, List.length_nil]; omega)) (by k_upd) ?_; k_whole); intro h' F' N'; (try dsimp only [List.nil_append, List.cons_append] at N'))
  k_with "getItem ref int" => (k_here; k_dflt (refine getItem_some PyProof.V.same_int (intKind_is _ _ _ _) (by k_tabat) (by assumption) ?_; k_whole); intro v' d' hl' hv')
  k_with "mine stat" => (rename Rep _ _ _ _ => RR; refine Rep.use RR ?_; intro hS1 hS2 hS3 oS4 hS4 kS4 hS4' hS4'' hS5 hS6 oS7 hS7 kS7 hS7' hS7'' hS8 hS9 esS10 nS10 hS10 hS10' hS11 hS12 hS13 esS14 nS14 hS14 hS14' hS15 hS16 hS17 hS18 hS19 hS20 hS21 hS22 hS23 hS24 hS25 hS26 gS1 gS2 gS3 gS4 gS5 gS6)
  k_with "mine statS" => (rename Stat _ _ _ => SS; refine Stat.use SS ?_; intro hS1 hS2 hS3 oS4 hS4 kS4 hS4' hS4'' hS5 hS6 oS7 hS7 kS7 hS7' hS7'' hS8 hS9 esS10 nS10 hS10 hS10' hS11 hS12 hS13 esS14 nS14 hS14 hS14' hS15 hS16 hS17 hS18 hS19 hS20 hS21 hS22 hS23 hS24 hS25 hS26 gS1 gS2 gS3 gS4 gS5 gS6)
  k_with "mine dyn" => (rename Rep _ _ _ _ => RR; refine Rep.dyn RR ?_; intro jS1 odS jS2 kdS jS2' jS2'' o0S jS3 k0S jS3' jS3'' o1S jS4 k1S jS4' jS4'')
  k_with "mine fr" => (intro z q1 q2; (try dsimp only); first | (rw [if_neg q1, q2]; rfl) | (have q3 := q2; simp only [List.contains_cons, List.contains_nil, Bool.or_false, Bool.or_eq_false_iff, beq_eq_false_iff_ne, ne_eq] at q3; simp only [q1, q2, q3, if_false, List.contains_nil, Bool.false_eq_true]))
  k_with "mine frw" => (intro z q2; (try dsimp only); have q3 := q2; simp only [List.contains_cons, List.contains_nil, Bool.or_false, Bool.or_eq_false_iff, beq_eq_false_iff_ne, ne_eq] at q3; simp only [q2, q3, if_false, List.contains_nil, Bool.false_eq_true])
  k_with "k_handed" => exact flat_handed (by assumption)
  k_with "k_get" => assumption
  k_with "execs cons" => (k_here; first | k_gentoks | (refine execsG ?_; intro Q' hn hr))
  k_with "k_mem" => (change (_ : Addr × Obj) ∈ (_ : List (Addr × Obj)); ktr_member)
  trivial
-- 99b_exc
section
example : True := by
  k_with "k_mem" => (change (_ : Addr × Obj) ∈ (_ : List (Addr × Obj)); first | ktr_member | exact PS.memE (by assumption))
  trivial
example : True := by
  k_with "getAttr ref" => (k_here; k_dflt (refine getE_own (by k_in) (by exact inst_e (by k_asm) (.head _) (.tail _ (.head _)) (by assumption) (by assumption) (by assumption)) (by k_is) (by k_is) (by k_is) (by k_is) (by k_is) (by first | rfl | k_is) (by k_get) (by rfl) ?_; k_whole))
  trivial
example : True := by
  k_with "compareOp NotEq ref ref" => (k_here; k_dflt (refine cmp_same (by k_asm) (by k_mem) (by k_mem) (by exact Nat.le_of_ble_eq_true rfl) ?_; k_whole))
  trivial
example : True := by
  k_with "mine now" =>
    unfold g_stH
    dsimp only
    k_fill
    set_option tactic.hygienic false in intros
    have jwd := R3.wd
    have jwo := R3.st.wo.1
    have job := R3.st.ob.1
    have jobd := R3.st.obd.1
    obtain ⟨vo, co, jorw, hvo⟩ := R3.st.orw
    replace jorw := jorw.1
    obtain ⟨oo, kvo, jonm, hkvo, hlo, hno⟩ := R3.st.onm
    replace jonm := jonm.1
    obtain ⟨lo1, lo2, ⟨lo3, lo4⟩, ⟨lo5, lo6⟩, ⟨lo7, lo8⟩, ⟨lk1, lk2⟩, ⟨lk3, lk4⟩⟩ := R3.st.lowo
    have nwd1 : @Ne Nat A.wd A.onm := fun e => R3.st.onm.elim fun o h => h.elim fun k h => h.1.2.1 (e ▸ (by simp [Ad.muts]))
    have nwd2 : @Ne Nat A.wd A.orw := fun e => R3.st.orw.elim fun o h => h.elim fun k h => h.1.2.1 (e ▸ (by simp [Ad.muts]))
    rename Fr _ _ _ _ => FX
    with_unfolding_all refine' For_invVF FX ?kj1 ?kj2 ?_
    case kj1 => exact rfl
    case kj2 => exact rfl
    repeat' ((fail_if_success (with_reducible show wpAny _ _ (call (Value.ref _) _ _) _ _ _)); walk_at "mine step")
    rename News _ _ _ _ => N9
    k_here
    have mb : ∀ (a : Addr) (o : Obj), (a, o) ∈ nx3 → @Ne Nat a A.onm → @Ne Nat a A.orw → (a, o) ∈ butL [A.onm, A.orw] nx3 := fun a o h1 h2 h3 => mem_butL.mpr ⟨h1, fun q => by
      rcases List.mem_cons.mp q with q | q
      · exact h2 q
      · exact h3 (List.mem_singleton.mp q)⟩
    refine' symbol_c (k := (vo.length : Int)) (below_caller _) (by k_asm) (by k_asm) (by k_asm) rfl rfl (News.cons1 (N9 _ jonm) (News.cons1 (N9 _ jorw) (butL_news (fp := [A.onm, A.orw]) N9))) lo2 (butL_ne (.head _)) (butL_ne (.tail _ (.head _))) (mb _ _ jwo lo3 lo4) (mb _ _ jwd nwd1 nwd2) (mb _ _ job lo5 lo6) (mb _ _ jobd lo7 lo8) hkvo lo1 hno (by omega) (by omega) ?_
    intro sy z oo' kv' x1 x2 x3 x4 h' tk' F' N' hd' kl' nk' lt' qz
    repeat' ((fail_if_success (with_reducible show wpAny _ _ (pyIter _) _ _ _)); walk_at "mine step")
    rename News _ _ _ _ => NT
    rename Fr _ _ _ _ => FT
    have jsk := R3.st.sk.1
    obtain ⟨vsr, csr, jsr, hsr⟩ := R3.sr
    have hsr0 : vsr.length = 0 := hsr.length
    obtain rfl : vsr = [] := List.eq_nil_of_length_eq_zero hsr0
    have nsr1 : @Ne Nat A.sr A.onm := fun e => R3.st.onm.elim fun o h => h.elim fun k h => h.1.2.1 (e ▸ (by simp [Ad.muts]))
    have nsr2 : @Ne Nat A.sr A.orw := fun e => R3.st.orw.elim fun o h => h.elim fun k h => h.1.2.1 (e ▸ (by simp [Ad.muts]))
    have bsk := mb _ _ jsk lk1 lk2
    have bsd := mb _ _ R3.st.sd.1 lk3 lk4
    have bsr := mb _ _ jsr nsr1 nsr2
    have jsd := R3.st.sd.1
    refine' for_tup (x := Str.ofString "symbol") [Str.ofString "error"] (by rfl) ?fF8 ?fN8 ?fm8 ?turn8 ?done8
    case fF8 => exact FT
    case fN8 => exact NT
    case fm8 => exact .head _
    case turn8 =>
      have NT9 := NT
      clear FT NT
      intro i v u8 I it h8 tk8 hi hI F8 N8
      repeat' ((fail_if_success (with_reducible show wpAny _ _ (exec (Stmt.Try _ _ _ _ _) _) _ _ _)); walk_at "mine step")
      have hK : Konst w v ((I, it) :: nL NT9) := by
        match i, hi with
        | 0, hi => injection hi with hi; exact .inl hi.symm
        | 1, hi => injection hi with hi; exact .inr (.inl hi.symm)
        | 2, hi => injection hi with hi; exact .inr (.inr ⟨sy, z, _, _, _, _, _, hi.symm, .tail _ (.tail _ (.head _)), .tail _ (.tail _ (.tail _ (.head _)))⟩)
      have hmsk : (A.sk, instObj 435 A.sd) ∈ ((I, it) :: nL NT9) := .tail _ (.tail _ (.tail _ (.tail _ (.tail _ (.tail _ bsk)))))
      have hmsd : (A.sd, dictOf [en w "world" (A.tk 32) (.ref A.wo), en w "rows" (A.tk 33) (.ref A.sr)] 2) ∈ ((I, it) :: nL NT9) := .tail _ (.tail _ (.tail _ (.tail _ (.tail _ (.tail _ bsd)))))
      have hmsr : (A.sr, W.listOf #[] csr) ∈ ((I, it) :: nL NT9) := .tail _ (.tail _ (.tail _ (.tail _ (.tail _ (.tail _ bsr)))))
      with_unfolding_all refine wpAny_Try_except ?_
      repeat' ((fail_if_success (with_reducible show wpAny _ _ (call (Value.ref _) _ _) _ _ _)); walk_at "mine step")
      k_here
      refine' refuse_c ?yB8 ?yF8 ?yX8 ?yT8 rfl rfl hK hmsk ?yN8 ?_
      case yF8 => k_asm
      case yB8 => exact below_caller _
      case yX8 => k_asm
      case yT8 => k_asm
      case yN8 => exact N8
      intro e7 D7 lst7 t71 t72 t73 h7 tk7 R7 F7
      k_here
      refine' caught_D ?yK7 ?yF7 ?yR7 ?yX7 ?yT7 ?yx7 ?yC7 ?yb7 ?_ ?ya7 ?yd7 ?ye7 ?yg7
      case yF7 => exact F7
      case yR7 => exact R7
      case yK7 => exact below_caller _
      case yX7 => k_asm
      case yT7 => k_asm
      case yx7 => k_is
      case yC7 => k_is
      case yb7 => decide
      case ya7 => rfl
      case yd7 => rfl
      case ye7 => rfl
      case yg7 => decide
      k_whole
      intro h8' oe8 vs8 tk8' F9 N9' hc9 hD9 hd9
      repeat' ((fail_if_success (with_reducible show wpAny _ _ (call (Value.ref _) _ _) _ _ _)); walk_at "mine step")
      k_here
      refine' depth_m ?yB6 ?yF6 ?yX6 ?yT6 rfl ?mk6 ?md6 ?mr6 ?yN6 ?_
      case yF6 => k_asm
      case yB6 => exact below_caller _
      case yX6 => k_asm
      case yT6 => k_asm
      case yN6 => k_asm
      case mk6 => exact .tail _ (.tail _ (.tail _ (.tail _ hmsk)))
      case md6 => exact .tail _ (.tail _ (.tail _ (.tail _ hmsd)))
      case mr6 => exact .tail _ (.tail _ (.tail _ (.tail _ hmsr)))
      k_whole
      intro t6 h6 tk6 F6 N6
      repeat' (walk_at "mine step")
      k_here
      refine goesX F6 N6 ?_ rfl rfl
      intro h5 v5 F5 N5
      try dsimp only
      repeat' (walk_at "mine step")
      refine FPost.intro F5 (News.tail (News.tail (News.tail (News.tail N5)))) ?_ rfl
      intro z9 q1 q2
      have q3 : z9 ≠ Str.ofString "error" := fun e => by rw [e] at q2; exact absurd q2 (by decide)
      simp only [if_neg q3, if_neg q1, q2, Bool.false_eq_true, if_false]
    case done8 =>
      intro u8 h8 tk8 F8 N8
      (try dsimp only)
      repeat' (walk_at "mine step")

  trivial
theorem stI : g_stH.Pz1 := by
  refine GoalP.out ?_
  simp (disch := k_dflt (walk_at "mine now")) only [↓goalP_of]

end

example : True := by
  k_with_none
  k_with "mine c" => with_reducible first | assumption | exact And.left (by assumption) | exact And.left (And.right (by assumption)) | exact And.left (And.right (And.right (by assumption))) | exact And.left (And.right (And.right (And.right (by assumption)))) | exact And.left (And.right (And.right (And.right (And.right (by assumption))))) | exact And.left (And.right (And.right (And.right (And.right (And.right (by assumption)))))) | exact And.left (And.right (And.right (And.right (And.right (And.right (And.right (by assumption))))))) | exact And.left (And.right (And.right (And.right (And.right (And.right (And.right (And.right (by assumption)))))))) | exact And.left (And.right (And.right (And.right (And.right (And.right (And.right (And.right (And.right (by assumption))))))))) | exact And.left (And.right (And.right (And.right (And.right (And.right (And.right (And.right (And.right (And.right (by assumption)))))))))) | exact And.left (And.right (And.right (And.right (And.right (And.right (And.right (And.right (And.right (And.right (And.right (by assumption))))))))))) | exact And.left (And.right (And.right (And.right (And.right (And.right (And.right (And.right (And.right (And.right (And.right (And.right (by assumption)))))))))))) | exact And.left (And.right (And.right (And.right (And.right (And.right (And.right (And.right (And.right (And.right (And.right (And.right (And.right (by assumption))))))))))))) | exact And.left (And.right (And.right (And.right (And.right (And.right (And.right (And.right (And.right (And.right (And.right (And.right (And.right (And.right (by assumption)))))))))))))) | exact And.right (by assumption) | exact And.right (And.right (by assumption)) | exact And.right (And.right (And.right (by assumption))) | exact And.right (And.right (And.right (And.right (by assumption)))) | exact And.right (And.right (And.right (And.right (And.right (by assumption))))) | exact And.right (And.right (And.right (And.right (And.right (And.right (by assumption)))))) | exact And.right (And.right (And.right (And.right (And.right (And.right (And.right (by assumption)))))))
  k_with "k_all" => first | assumption | exact fun p hp => Nat.ne_of_lt (tb_ltOf (by assumption) p hp) | exact fun p hp => Nat.ne_of_gt (tb_ltOf (by assumption) p hp) | ((repeat (rename _ ∧ _ => q; cases q)); exact fun p hp => Nat.ne_of_lt (tb_ltOf (by assumption) p hp)) | ((repeat (rename _ ∧ _ => q; cases q)); exact fun p hp => Nat.ne_of_gt (tb_ltOf (by assumption) p hp))
  k_with "mine sub" => (intro p hp; (repeat first | exact hp | refine List.Mem.tail _ ?_))
  k_with "mine opt" => first | assumption | exact isOpt_none | exact isOpt_int _ _
  k_with "mine tk" => first | assumption | exact Mine.tk2 (by walk_at "mine opt") (by walk_at "mine opt")
  k_with "compareOp In ref ref" => (k_here; k_dflt (refine rows_in (by exact Nat.le_of_ble_eq_true rfl) (by k_asm) (by assumption) (by walk_at "mine sub") (by k_mem) (by assumption) (by k_mem) (by walk_at "mine tk") ?_; k_whole))
  k_with "compareOp NotIn ref ref" => (k_here; k_dflt (refine rows_notin (by exact Nat.le_of_ble_eq_true rfl) (by k_asm) (by assumption) (by walk_at "mine sub") (by k_mem) (by assumption) (by k_mem) (by walk_at "mine tk") ?_; k_whole))
  k_with "call builtin:dict.get" => (k_here; k_dflt (refine rows_get (by exact Nat.le_of_ble_eq_true rfl) (by k_asm) (by assumption) (by walk_at "mine sub") (by k_mem) (by assumption) (by k_mem) (by walk_at "mine tk") ?_; k_whole); intro v' hv')
  k_with "getMethod ref" => (k_here; (with_reducible show wpAny _ _ (getMethod (Value.ref _) _ _) _ _ _); k_dflt (refine rows_meth (by first | exact PySem.F.slot_dict_get | exact PySem.F.slot_dict_pop) (by rfl) (by k_asm) (by assumption) (by walk_at "mine sub") (by k_mem) (by assumption) ?_; k_whole))
  k_with "subscriptTail" => (k_here; (with_reducible show wpAny _ _ (subscriptTail _ _ (Value.ref _) (Value.ref _)) _ _ _); k_dflt (refine rows_itemS (by exact Nat.le_of_ble_eq_true rfl) (by k_asm) (by assumption) (by walk_at "mine sub") (by k_mem) (by assumption) (by k_mem) (by walk_at "mine tk") (by assumption) ?_ (by with_unfolding_all rfl) (by (intro _; with_unfolding_all rfl)); k_whole); intro v' d' hl' hv')
  k_with "call builtin:len" => (k_here; (with_reducible show wpAny _ _ (call (Value.builtin "len") [Value.ref _]) _ _ _); k_dflt (refine lenL (by k_asm) (by k_mem) (by omega) ?_; k_whole); intro t' tk')
  k_with "call builtin:dict.pop" => (k_here; (with_reducible show wpAny _ _ (call (Value.builtin _) [Value.ref _, Value.int _ _]) _ _ _); k_dflt (refine popI (by k_asm) (by k_asm) (by k_updF) (by assumption) (by assumption) (by assumption) (by omega) ?_; k_whole); intro h' o' v' kvs' D' F' N' hd' hf' hn' hl'; (try dsimp only at N'))
  k_with "setItem ref int" => (k_here; k_dflt (refine setItem_K PyProof.V.same_int (intKind_is _ _ _ _) (by k_flat) (by k_asm) (by k_asm) (by k_updF) (by assumption) (by assumption) ?_ (by (rw [sizeLine_eq]; omega)); ); intro h' o' F' N' hd' hf'; (try dsimp only at N'))
  k_with "call builtin:list.pop" => (k_here; k_dflt (refine pop0 (by k_asm) (by k_asm) (by k_upd) (by (have hq := IntsAre.length (by assumption); rw [sizeLine_eq]; simp only [List.length_cons] at *; omega)) ?_; k_whole); intro h' F' N'; (try dsimp only [List.nil_append, List.cons_append] at N'))
  k_with "call builtin:list.append" => (k_here; (with_reducible show wpAny _ _ (call (Value.builtin _) [Value.ref _, _]) _ _ _); k_dflt (refine appF (by k_asm) (by k_asm) (by first | omega | (simp only [List.length_append, List.length_cons, List.length_nil]; omega)) (by k_upd) ?_; k_whole); intro h' F' N'; (try dsimp only [List.nil_append, List.cons_append] at N'))
  k_with "getItem ref int" => (k_here; k_dflt (refine getItem_some PyProof.V.same_int (intKind_is _ _ _ _) (by k_tabat) (by assumption) ?_; k_whole); intro v' d' hl' hv')
  k_with "mine stat" => (rename Rep _ _ _ _ => RR; refine Rep.use RR ?_; intro hS1 hS2 hS3 oS4 hS4 kS4 hS4' hS4'' hS5 hS6 oS7 hS7 kS7 hS7' hS7'' hS8 hS9 esS10 nS10 hS10 hS10' hS11 hS12 hS13 esS14 nS14 hS14 hS14' hS15 hS16 hS17 hS18 hS19 hS20 hS21 hS22 hS23 hS24 hS25 hS26 gS1 gS2 gS3 gS4 gS5 gS6)
  k_with "mine statS" => (rename Stat _ _ _ => SS; refine Stat.use SS ?_; intro hS1 hS2 hS3 oS4 hS4 kS4 hS4' hS4'' hS5 hS6 oS7 hS7 kS7 hS7' hS7'' hS8 hS9 esS10 nS10 hS10 hS10' hS11 hS12 hS13 esS14 nS14 hS14 hS14' hS15 hS16 hS17 hS18 hS19 hS20 hS21 hS22 hS23 hS24 hS25 hS26 gS1 gS2 gS3 gS4 gS5 gS6)
  k_with "mine dyn" => (rename Rep _ _ _ _ => RR; refine Rep.dyn RR ?_; intro jS1 odS jS2 kdS jS2' jS2'' o0S jS3 k0S jS3' jS3'' o1S jS4 k1S jS4' jS4'')
  k_with "mine fr" => (intro z q1 q2; (try dsimp only); first | (rw [if_neg q1, q2]; rfl) | (have q3 := q2; simp only [List.contains_cons, List.contains_nil, Bool.or_false, Bool.or_eq_false_iff, beq_eq_false_iff_ne, ne_eq] at q3; simp only [q1, q2, q3, if_false, List.contains_nil, Bool.false_eq_true]))
  k_with "mine frw" => (intro z q2; (try dsimp only); have q3 := q2; simp only [List.contains_cons, List.contains_nil, Bool.or_false, Bool.or_eq_false_iff, beq_eq_false_iff_ne, ne_eq] at q3; simp only [q2, q3, if_false, List.contains_nil, Bool.false_eq_true])
  k_with "k_handed" => exact flat_handed (by assumption)
  k_with "k_get" => assumption
  k_with "execs cons" => (k_here; first | k_gentoks | (refine execsG ?_; intro Q' hn hr))
  k_with "k_mem" => (change (_ : Addr × Obj) ∈ (_ : List (Addr × Obj)); ktr_member)
  trivial
theorem s_stH : g_stE.Pz2 := g_stH.impz ⟨stI⟩
theorem s_stF : g_stE.Pz1 := g_stF.impz ⟨pa0⟩ ⟨pa1⟩ ⟨pa2⟩ ⟨pa5⟩ ⟨pa6⟩ ⟨pa7⟩ ⟨stG⟩
theorem s_stE : g_stD.Pz1 := g_stE.impz ⟨s_stF⟩ ⟨s_stH⟩
theorem s_stD : g_stC.Pz1 := g_stD.impz ⟨s_stE⟩
theorem s_stC : g_stB.Pz1 := g_stC.impz ⟨s_stD⟩
theorem s_stB : g_stA.Pz1 := g_stB.impz ⟨s_stC⟩
theorem s_stA : g_lawW.Pz1 := g_stA.impz ⟨s_stB⟩
theorem lawW {d : DefRec} {kwd : List (Str × Expr)} (hdef : defOf view "law" = some (d, kwd)) : WalkO view ["NIL", "T", "bind_variables", "Buffer"] (XL view []) (kHook Kf kfL kfAs).says PySem.Challenge.rw_np0094_01.row.toRowW d kwd fun f vs => PySem.call f vs := g_lawW.impz ⟨s_stA⟩ d kwd hdef
theorem hdT.tw11474072394728222210 : True := trivial
theorem hdT.tw14239289350908617314 : True := trivial
theorem hdT.tw12942645491533211748 : True := trivial
theorem hdT.tw5806034029871757836 : True := trivial
theorem hdT.tw8750652063840231740 : True := trivial
theorem hdT.tw6150976936601723337 : True := trivial
theorem hdT.tw9451025747531858059 : True := trivial
theorem hdT.tw1327509301673333715 : True := trivial
theorem hdT.tw7118430192128766453 : True := trivial
theorem hdT.tw13988915499686876603 : True := trivial
theorem hdT.tw14707448593713908072 : True := trivial
theorem hdT.tw222358611838573069 : True := trivial
theorem hdT.tw3154932998989693115 : True := trivial
theorem hdT.tw13538150416244100956 : True := trivial
theorem hdT.tw16142530673812704952 : True := trivial
theorem hdT.tw15595976923621643440 : True := trivial
theorem hdT.tw683934152577371975 : True := trivial
theorem hdT.tw18227977749983114446 : True := trivial
theorem hdT.tw12530120557820931060 : True := trivial
theorem hdT.tw1703803867004149873 : True := trivial
theorem hdT.tw18440575318786485203 : True := trivial
theorem hdT.tw7970412397520320654 : True := trivial
theorem hdT.tw3519013304060778432 : True := trivial
theorem hdT.tw12016396987279823510 : True := trivial
theorem hdT.tw11757530532557608132 : True := trivial
theorem hdT.tw6089881760442619883 : True := trivial
theorem hdT.tw487194709873768154 : True := trivial
theorem hdT.tw3232902566179762624 : True := trivial
theorem hdT.tw17012835219290240407 : True := trivial
theorem hdT.tw17168641147342670659 : True := trivial
theorem hdT.tw10512983876303221748 : True := trivial
theorem hdT.tw15670875253111351066 : True := trivial
theorem hdT.tw4284608214837042114 : True := trivial
theorem hdT.tw9747532853796621756 : True := trivial
theorem hdT.tw2948353722112939280 : True := trivial
theorem hdT.tw92803350260385714 : True := trivial
theorem hdT.tw9699336115117729930 : True := trivial
theorem hdT.tw7108597360084366280 : True := trivial
theorem hdT.tw3424229145647276613 : True := trivial
theorem hdT.tw1378004814817118474 : True := trivial
theorem hdT.tw16549196318746827350 : True := trivial
theorem hdT.tw5789553496708623366 : True := trivial
theorem hdT.tw8739099295787217745 : True := trivial
theorem hdT.tw13288545177995597568 : True := trivial
theorem hdT.tw8054727372441204377 : True := trivial
theorem hdT.tw9257927824111913287 : True := trivial
theorem hdT.tw3386991895478756463 : True := trivial
theorem hdT.tw7378758851455175208 : True := trivial
theorem hdT.tw5910440616305488821 : True := trivial
theorem hdT.tw13965410898340613445 : True := trivial
theorem hdT.tw10698547421548001454 : True := trivial
theorem hdT.tw3750821004556546318 : True := trivial
theorem hdT.tw13038914319371988265 : True := trivial
theorem hdT.tw6412721170132791065 : True := trivial
theorem hdT.tw12289107789337763766 : True := trivial
theorem hdT.tw11805960059324406283 : True := trivial
theorem hdT.tw10937101298365751459 : True := trivial
theorem hdT.tw5205668749297161461 : True := trivial
theorem hdT.tw13190432942527766312 : True := trivial
theorem hdT.tw8448208942434106986 : True := trivial
theorem hdT.tw7677604209425335484 : True := trivial
theorem hdT.tw4719937437743394932 : True := trivial
theorem hdT.tw5798720885741911428 : True := trivial
theorem hdT.tw8852530127386481689 : True := trivial
theorem hdT.tw1015662721845049221 : True := trivial
theorem hdT.tw11417774720625015196 : True := trivial
theorem hdT.tw17904838590246713782 : True := trivial
theorem hdT.tw7611494794363963934 : True := trivial
theorem hdT.tw938805452192909420 : True := trivial
theorem hdT.tw12313064947553493437 : True := trivial
theorem hdT.tw15234727377662040961 : True := trivial
theorem hdT.tw6955748858972044763 : True := trivial
theorem hdT.tw9026123117894594927 : True := trivial
theorem hdT.tw942264188830469661 : True := trivial
theorem hdT.tw18250224025411190348 : True := trivial
theorem hdT.tw2332166447756793472 : True := trivial
theorem hdT.tw6909686524076739110 : True := trivial
theorem hdT.tw13764317736034591790 : True := trivial
theorem hdT.tw1076393681880360236 : True := trivial
theorem hdT.tw9552418135779484783 : True := trivial
theorem hdT.tw251177777154480768 : True := trivial
theorem hdT.tw2097802629581862470 : True := trivial
theorem hdT.tw816760262920538255 : True := trivial
theorem hdT.tw9007937751257014164 : True := trivial
theorem hdT.tw3692420409069793776 : True := trivial
theorem hdT.tw15373800813920376587 : True := trivial
theorem hdT.tw16808101064571166239 : True := trivial
theorem hdT.tw17570792280595983627 : True := trivial
theorem hdT.tw3500045380929495133 : True := trivial
theorem hdT.tw13572087799763237570 : True := trivial
theorem hdT.tw1454611242866301681 : True := trivial
theorem hdT.tw14682451217626634541 : True := trivial
theorem hdT.tw11156275287357966263 : True := trivial
theorem hdT.tw18100569989897730878 : True := trivial
theorem hdT.tw8597674654162788304 : True := trivial
theorem hdT.tw8958366324690311949 : True := trivial
theorem hdT.tw10080614041577044238 : True := trivial
theorem hdT.tw10107192914230221782 : True := trivial
theorem hdT.tw17873790006769355236 : True := trivial
theorem hdT.tw6517722867670072411 : True := trivial
theorem hdT.tw8049430661905582836 : True := trivial
theorem hdT.tw2878793156848834522 : True := trivial
theorem hdT.tw2959051711841503385 : True := trivial
theorem hdT.tw15994309253796730768 : True := trivial
theorem hdT.tw8088496495341888229 : True := trivial
theorem hdT.tw8960257034939007134 : True := trivial
theorem hdT.tw18310924211212023898 : True := trivial
theorem hdT.tw17412967051597721154 : True := trivial
theorem hdT.tw8501830736991318821 : True := trivial
theorem hdT.tw4326596812911890447 : True := trivial
theorem hdT.tw16524059280546940625 : True := trivial
theorem hdT.tw18065828404810378480 : True := trivial
theorem hdT.tw3108816052577961834 : True := trivial
theorem hdT.tw14978029401855857091 : True := trivial
theorem hdT.tw6987257369885776379 : True := trivial
theorem hdT.tw3794940417139765988 : True := trivial
theorem hdT.tw8677362600404108592 : True := trivial
theorem hdT.tw3436416683638535253 : True := trivial
theorem hdT.tw17001892586881495512 : True := trivial
theorem hdT.tw8937378945868886277 : True := trivial
theorem hdT.tw15245283165404128447 : True := trivial
theorem hdT.tw17603631647825564964 : True := trivial
theorem hdT.tw10458063012534425841 : True := trivial
theorem hdT.tw3837135630182166146 : True := trivial
theorem hdT.tw1017680836896482676 : True := trivial
theorem hdT.tw18138672634151941913 : True := trivial
theorem hdT.tw1066543892732998623 : True := trivial
theorem hdT.tw16987890369639669891 : True := trivial
theorem hdT.tw15503024994843384373 : True := trivial
theorem hdT.tw12823330673785800531 : True := trivial
theorem hdT.tw10550274581034694307 : True := trivial
theorem hdT.tw1469108666565013507 : True := trivial
theorem hdT.tw11622076878049408082 : True := trivial
theorem hdT.tw17035528155845151454 : True := trivial
theorem hdT.tw9835184126452975737 : True := trivial
theorem hdT.tw2346434553980085496 : True := trivial
theorem hdT.tw13298019607888386524 : True := trivial
theorem hdT.tw355996382856560000 : True := trivial
theorem hdT.tw7942171668155527442 : True := trivial
theorem hdT.tw6735879728937818129 : True := trivial
theorem hdT.tw14384018857657548324 : True := trivial
theorem hdT.tw17484115831290457604 : True := trivial
theorem hdT.tw10173080693487543003 : True := trivial
theorem hdT.tw12537388514157618536 : True := trivial
theorem hdT.tw3146396220367132296 : True := trivial
theorem hdT.tw3114665982151778685 : True := trivial
theorem hdT.tw3833387084548308060 : True := trivial
theorem hdT.tw16514091972170015177 : True := trivial
theorem hdT.tw13054363712787031859 : True := trivial
theorem hdT.tw15630669192427029075 : True := trivial
theorem hdT.tw5986795274833353738 : True := trivial
theorem hdT.tw12965636546680305311 : True := trivial
theorem hdT.tw6116779600463100829 : True := trivial
theorem hdT.tw5259499215298897955 : True := trivial
theorem hdT.tw6648054533095916842 : True := trivial
theorem hdT.tw9347353921567168070 : True := trivial
theorem hdT.tw1622898880106009733 : True := trivial
theorem hdT.tw10319501003782391847 : True := trivial
theorem hdT.tw10637491067871093976 : True := trivial
theorem hdT.tw1873386468875058060 : True := trivial
theorem hdT.tw2421974210947943896 : True := trivial
theorem hdT.tw7873442354669621758 : True := trivial
theorem hdT.tw11679227984046665637 : True := trivial
theorem hdT.tw17684493538786419990 : True := trivial
theorem hdT.tw1891281401311970101 : True := trivial
theorem hdT.tw11550254677324453141 : True := trivial
theorem hdT.tw457585342618246847 : True := trivial
theorem hdT.tw3953179481644070144 : True := trivial
theorem hdT.tw1965936428634566924 : True := trivial
theorem hdT.tw14508051596820820839 : True := trivial
theorem hdT.tw3030242004042926618 : True := trivial
theorem hdT.tw4124197524452322487 : True := trivial
theorem hdT.tw16484381730997062492 : True := trivial
theorem hdT.tw16626288849920792520 : True := trivial
theorem hdT.tw16578026159639430467 : True := trivial
theorem hdT.tw8173607700945315544 : True := trivial
theorem hdT.tw7357894038608555523 : True := trivial
theorem hdT.tw12257142217187598610 : True := trivial
theorem hdT.tw9389196833010162243 : True := trivial
theorem hdT.tw6690937501477351658 : True := trivial
theorem hdT.tw12626607938501811000 : True := trivial
theorem hdT.tw6324740212330344277 : True := trivial
theorem hdT.tw15010457189144340986 : True := trivial
theorem hdT.tw7399340436763251304 : True := trivial
theorem hdT.tw617269760308790182 : True := trivial
theorem hdT.tw6712877469516756738 : True := trivial
theorem hdT.tw8895514805758037100 : True := trivial
theorem hdT.tw13281160262870861691 : True := trivial
theorem hdT.tw7201601642792764949 : True := trivial
theorem hdT.tw18243017937811348529 : True := trivial
theorem hdT.tw6069086958997180844 : True := trivial
theorem hdT.tw8799372203303575795 : True := trivial
theorem hdT.tw2195608335200427237 : True := trivial
theorem hdT.tw11001209747788500658 : True := trivial
theorem hdT.tw4117183145614516387 : True := trivial
theorem hdT.tw10249303264208934864 : True := trivial
theorem hdT.tw15902368515024810717 : True := trivial
theorem hdT.tw1066655907184155469 : True := trivial
theorem hdT.tw4805750459014103763 : True := trivial
theorem hdT.tw16741848247305013400 : True := trivial
theorem hdT.tw9531525317723489367 : True := trivial
theorem hdT.tw5802449919845830828 : True := trivial
theorem hdT.tw12406650531067531190 : True := trivial
theorem hdT.tw3075648315715463794 : True := trivial
theorem hdT.tw13271241176467474704 : True := trivial
theorem hdT.tw17456490922900562567 : True := trivial
theorem hdT.tw15288339253287142081 : True := trivial
theorem hdT.tw14560644946258142183 : True := trivial
theorem hdT.tw4919105219394446106 : True := trivial
theorem hdT.tw7465250386075303570 : True := trivial
theorem hdT.tw8873467754133050205 : True := trivial
theorem hdT.tw8845853409719386050 : True := trivial
theorem hdT.tw9983460089433338982 : True := trivial
theorem hdT.tw476896764602719412 : True := trivial
theorem hdT.tw11747024902356852549 : True := trivial
theorem hdT.tw12097059370169897664 : True := trivial
theorem hdT.tw14529177570932698710 : True := trivial
theorem hdT.tw2630498254398583971 : True := trivial
theorem hdT.tw2465201272906389876 : True := trivial
theorem hdT.tw15941966535906006232 : True := trivial
theorem hdT.tw12604221089893923323 : True := trivial
theorem hdT.tw13645766375491644408 : True := trivial
theorem hdT.tw3148966950799367373 : True := trivial
theorem hdT.tw13293429889846063270 : True := trivial
theorem hdT.tw3668117882875102453 : True := trivial
theorem hdT.tw4208734143498477645 : True := trivial
theorem hdT.tw14020171688309530123 : True := trivial
theorem hdT.tw8641585120534172112 : True := trivial
theorem hdT.tw5409366007584967075 : True := trivial
theorem hdT.tw3282193913366300933 : True := trivial
theorem hdT.tw16679067981958320292 : True := trivial
theorem hdT.tw12279998229694318322 : True := trivial
theorem hdT.tw9966396331570240342 : True := trivial
theorem hdT.tw855168499411000503 : True := trivial
theorem hdT.tw1557172595067183701 : True := trivial
theorem hdT.tw15944171606607820856 : True := trivial
theorem hdT.tw7460648067218526814 : True := trivial
theorem hdT.tw9914334180009780790 : True := trivial
theorem hdT.tw17732004547103332221 : True := trivial
theorem hdT.tw3163186264296576149 : True := trivial
theorem hdT.tw16623138619976506330 : True := trivial
theorem hdT.tw2541478479852403590 : True := trivial
theorem hdT.tw11589766111040825669 : True := trivial
theorem hdT.tw15104707605424631900 : True := trivial
theorem hdT.tw17965140303836459104 : True := trivial
theorem hdT.tw11535936197290861371 : True := trivial
theorem hdT.tw3523916434977887104 : True := trivial
theorem hdT.tw6500145776929650466 : True := trivial
theorem hdT.tw7821551477653345829 : True := trivial
theorem hdT.tw1540163835791376826 : True := trivial
theorem hdT.tw3331085903319155317 : True := trivial
theorem hdT.tw1710166738094517644 : True := trivial
theorem hdT.tw2783956855398936025 : True := trivial
theorem hdT.tw9015241098177759933 : True := trivial
theorem hdT.tw12541584954729255465 : True := trivial
theorem hdT.tw12986058576653620508 : True := trivial
theorem hdT.tw15986589184504527592 : True := trivial
theorem hdT.tw9534325647766667915 : True := trivial
theorem hdT.tw12941394351013496133 : True := trivial
theorem hdT.tw12896701216255168246 : True := trivial
theorem hdT.tw10648478647889614788 : True := trivial
theorem hdT.tw9473030223221459465 : True := trivial
theorem hdT.tw12817492696408795699 : True := trivial
theorem hdT.tw824807754771498271 : True := trivial
theorem hdT.tw6011456627351739823 : True := trivial
theorem hdT.tw9629474434527699809 : True := trivial
theorem hdT.tw12293168118825579695 : True := trivial
theorem hdT.tw13065430645502238488 : True := trivial
theorem hdT.tw12259539577975103698 : True := trivial
theorem hdT.tw10119916259010104969 : True := trivial
theorem hdT.tw12038241232971039084 : True := trivial
theorem hdT.tw17988498918168435268 : True := trivial
theorem hdT.tw9146186308222619086 : True := trivial
theorem hdT.tw5476256833781881076 : True := trivial
theorem hdT.tw15028613228254450480 : True := trivial
theorem hdT.tw1085446360950862833 : True := trivial
theorem hdT.tw1892497086594246384 : True := trivial
theorem hdT.tw6205973221028437055 : True := trivial
theorem hdT.tw3680329325441293862 : True := trivial
theorem hdT.tw2597303081884382771 : True := trivial
theorem hdT.tw5567182623669345149 : True := trivial
theorem hdT.tw1543731155930569881 : True := trivial
theorem hdT.tw18210978504206961622 : True := trivial
theorem hdT.tw16090597687862852191 : True := trivial
theorem hdT.tw12079561201602305451 : True := trivial
theorem hdT.tw16922730983264970715 : True := trivial
theorem hdT.tw4012522088078816110 : True := trivial
theorem hdT.tw13847432502941933032 : True := trivial
theorem hdT.tw13102114777984284480 : True := trivial
theorem hdT.tw13508362850219849301 : True := trivial
theorem hdT.tw12839877120325842763 : True := trivial
theorem hdT.tw12475268420717446649 : True := trivial
theorem hdT.tw2042762938286467980 : True := trivial
theorem hdT.tw13184737160273421960 : True := trivial
theorem hdT.tw2187532262907252767 : True := trivial
theorem hdT.tw12807591335219599141 : True := trivial
theorem hdT.tw4042970992223234270 : True := trivial
theorem hdT.tw7947338347599594513 : True := trivial
theorem hdT.tw13952589186035531799 : True := trivial
theorem hdT.tw15363033733867052640 : True := trivial
theorem hdT.tw16730996887124671439 : True := trivial
theorem hdT.tw17110205108780911252 : True := trivial
theorem hdT.tw7663180509135097439 : True := trivial
theorem hdT.tw7561044058177157300 : True := trivial
theorem hdT.tw4487434557544995915 : True := trivial
theorem hdT.tw18248651582587074862 : True := trivial
theorem hdT.tw7686422701275456138 : True := trivial
theorem hdT.tw11400800689391800470 : True := trivial
theorem hdT.tw10468062072056533275 : True := trivial
theorem hdT.tw8027916372720486466 : True := trivial
theorem hdT.tw1948666990017201687 : True := trivial
theorem hdT.tw1005338743208741551 : True := trivial
theorem hdT.tw17615970304678335875 : True := trivial
theorem hdT.tw3900541090566538375 : True := trivial
theorem hdT.tw12320029094706313238 : True := trivial
theorem hdT.tw1830728938623689242 : True := trivial
theorem hdT.tw2222322585373364402 : True := trivial
theorem hdT.tw5929152466802282115 : True := trivial
theorem hdT.tw1760258660891434357 : True := trivial
theorem hdT.tw7977824130624017432 : True := trivial
theorem hdT.tw8116751731055428168 : True := trivial
theorem hdT.tw1410652289430288153 : True := trivial
theorem hdT.tw6269800576724384367 : True := trivial
theorem hdT.tw8862904055507789325 : True := trivial
theorem hdT.tw13410742300778622958 : True := trivial
theorem hdT.tw2420845466144198696 : True := trivial
theorem hdT.tw13745481164612088859 : True := trivial
theorem hdT.tw5604596863259938530 : True := trivial
theorem hdT.tw8736242586738543179 : True := trivial
theorem hdT.tw776734900397645373 : True := trivial
theorem hdT.tw2274366630676871501 : True := trivial
theorem hdT.tw6646879331855590304 : True := trivial
theorem hdT.tw16039362008813612741 : True := trivial
theorem hdT.tw14823433085943519800 : True := trivial
theorem hdT.tw14394623442800784134 : True := trivial
theorem hdT.tw12550224545676175790 : True := trivial
theorem hdT.tw3130026600693219103 : True := trivial
theorem hdT.tw4799336707676368658 : True := trivial
theorem hdT.tw2141031780377652736 : True := trivial
theorem hdT.tw18425225725321503756 : True := trivial
theorem hdT.tw11235201746331668935 : True := trivial
theorem hdT.tw4420862922631421675 : True := trivial
theorem hdT.tw8942416064926795761 : True := trivial
theorem hdT.tw17782419194950345232 : True := trivial
theorem hdT.tw4802648587422312854 : True := trivial
theorem hdT.tw8326316056751524354 : True := trivial
theorem hdT.tw5308408606060209583 : True := trivial
theorem hdT.tw5144897212246035213 : True := trivial
theorem hdT.tw11458501801640361781 : True := trivial
theorem hdT.tw2524514887380091968 : True := trivial
theorem hdT.tw1432046594818976388 : True := trivial
theorem hdT.tw2375206398539671207 : True := trivial
theorem hdT.tw15604690081134836391 : True := trivial
theorem hdT.tw9470199025548531795 : True := trivial
theorem hdT.tw14374489479828959890 : True := trivial
theorem hdT.tw7760847729004739588 : True := trivial
theorem hdT.tw15983779588726612320 : True := trivial
theorem hdT.tw4383407420157449125 : True := trivial
theorem hdT.tw14535055646236278548 : True := trivial
theorem hdT.tw11048436554777996028 : True := trivial
theorem hdT.tw16651234390879853358 : True := trivial
theorem hdT.tw3808180270531141879 : True := trivial
theorem hdT.tw7475871208913492162 : True := trivial
theorem hdT.tw11473714755269862020 : True := trivial
theorem hdT.tw15578045932945952825 : True := trivial
theorem hdT.tw4414320403467177761 : True := trivial
theorem hdT.tw5203333516962216804 : True := trivial
theorem hdT.tw12544253977147454324 : True := trivial
theorem hdT.tw15949583200925485384 : True := trivial
theorem hdT.tw14156971944580773197 : True := trivial
theorem hdT.tw5481060920723979279 : True := trivial
theorem hdT.tw14697747961488160826 : True := trivial
theorem hdT.tw15478290568897951882 : True := trivial
theorem hdT.tw10580247544697141323 : True := trivial
theorem hdT.tw79765421381628701 : True := trivial
theorem hdT.tw2485307429580185532 : True := trivial
theorem hdT.tw17666093417056562162 : True := trivial
theorem hdT.tw2139353334662462342 : True := trivial
theorem hdT.tw279229455494635177 : True := trivial
theorem hdT.tw4699266021141634843 : True := trivial
theorem hdT.tw7404225678548197383 : True := trivial
theorem hdT.tw12981684361872513027 : True := trivial
theorem hdT.tw10428136857845229736 : True := trivial
theorem hdT.tw13218149750968122468 : True := trivial
theorem hdT.tw16364119444717739325 : True := trivial
theorem hdT.tw18130717086531243166 : True := trivial
theorem hdT.tw16899397432000394928 : True := trivial
theorem hdT.tw6293537249065075018 : True := trivial
theorem hdT.tw7790660797244695241 : True := trivial
theorem hdT.tw15460788182947458201 : True := trivial
theorem hdT.tw6425414900942841285 : True := trivial
theorem hdT.tw1747257847226575806 : True := trivial
theorem hdT.tw4817551288996843878 : True := trivial
theorem hdT.tw2804180765906522570 : True := trivial
theorem hdT.tw15937572380017826584 : True := trivial
theorem hdT.tw1176079322420180659 : True := trivial
theorem hdT.tw12159475244442648221 : True := trivial
theorem hdT.tw11541319093331784333 : True := trivial
theorem hdT.tw2191873762645271535 : True := trivial
theorem hdT.tw14339686620797904987 : True := trivial
theorem hdT.tw15649314382953645090 : True := trivial
theorem hdT.tw9227535465733522349 : True := trivial
theorem hdT.tw378083904730610894 : True := trivial
theorem hdT.tw14648113513234639647 : True := trivial
theorem hdT.tw12563112198918280810 : True := trivial
theorem hdT.tw10247054860911567197 : True := trivial
theorem hdT.tw3588971163530525636 : True := trivial
theorem hdT.tw14689110479457818338 : True := trivial
theorem hdT.tw8797873527435561917 : True := trivial
theorem hdT.tw8766941176648348281 : True := trivial
theorem hdT.tw8050950827777398048 : True := trivial
theorem hdT.tw6628020113012296143 : True := trivial
theorem hdT.tw7950496612914393113 : True := trivial
theorem hdT.tw6889086249523499052 : True := trivial
theorem hdT.tw6016340665346597148 : True := trivial
theorem hdT.tw2178699043757754280 : True := trivial
theorem hdT.tw3241106111546785190 : True := trivial
theorem hdT.tw13620483158270863084 : True := trivial
theorem hdT.tw7370714080064044178 : True := trivial
theorem hdT.tw11784691634321053843 : True := trivial
theorem hdT.tw10158975050279796663 : True := trivial
theorem hdT.tw9853699950698129989 : True := trivial
theorem hdT.tw308856326611634325 : True := trivial
theorem hdT.tw10831409624700874709 : True := trivial
theorem hdT.tw14184987369404498229 : True := trivial
theorem hdT.tw5657525579230229757 : True := trivial
theorem hdT.tw4460268821922463416 : True := trivial
theorem hdT.tw13645143491626055617 : True := trivial
theorem hdT.tw17644019301889704414 : True := trivial
theorem hdT.tw15503895281595511207 : True := trivial
theorem hdT.tw16411160818834565329 : True := trivial
theorem hdT.tw17155855487621836709 : True := trivial
theorem hdT.tw5619491481767085419 : True := trivial
theorem hdT.tw9761581780216786772 : True := trivial
theorem hdT.tw3409573036451121051 : True := trivial
theorem hdT.tw2125363017717865648 : True := trivial
theorem hdT.tw15260663562296954404 : True := trivial
theorem hdT.tw2873733111616625417 : True := trivial
theorem hdT.tw7963365950823558655 : True := trivial
theorem hdT.tw12823683342366667648 : True := trivial
theorem hdT.tw10988130239496037820 : True := trivial
theorem hdT.tw12153659471345884365 : True := trivial
theorem hdT.tw10036917896950967397 : True := trivial
theorem hdT.tw1843932490979021277 : True := trivial
theorem hdT.tw2315787472201323137 : True := trivial
theorem hdT.tw11459261865374864192 : True := trivial
theorem hdT.tw1053057342741277391 : True := trivial
theorem hdT.tw12106956960737714382 : True := trivial
theorem hdT.tw15706192859081561822 : True := trivial
theorem hdT.tw13943718228407289568 : True := trivial
theorem hdT.tw15089131379500936453 : True := trivial
theorem hdT.tw14135771155940000022 : True := trivial
theorem hdT.tw10235648714583199142 : True := trivial
theorem hdT.tw15937438585856900970 : True := trivial
theorem hdT.tw10010845322139352627 : True := trivial
theorem hdT.tw14973298472011693169 : True := trivial
theorem hdT.tw12513107966257316912 : True := trivial
theorem hdT.tw17510572939308434107 : True := trivial
theorem hdT.tw16725842125655001164 : True := trivial
theorem hdT.tw3354442301435478463 : True := trivial
theorem hdT.tw8092666306467823078 : True := trivial
theorem hdT.tw2897632379665089931 : True := trivial
theorem hdT.tw15585351579074516767 : True := trivial
theorem hdT.tw12194875641299781416 : True := trivial
theorem hdT.tw11911279253351009771 : True := trivial
theorem hdT.tw1102789012699053714 : True := trivial
theorem hdT.tw6064895267252864088 : True := trivial
theorem hdT.tw2314625152735253464 : True := trivial
theorem hdT.tw776152709372847384 : True := trivial
theorem hdT.tw6620875393786368385 : True := trivial
theorem hdT.tw4306714477624967827 : True := trivial
theorem hdT.tw4584557407448336657 : True := trivial
theorem hdT.tw15338273020528510402 : True := trivial
theorem hdT.tw9084411662588796295 : True := trivial
theorem hdT.tw14113409516418308985 : True := trivial
theorem hdT.tw10166195152394021702 : True := trivial
theorem hdT.tw13075672575759723129 : True := trivial
theorem hdT.tw12643286276921385653 : True := trivial
theorem hdT.tw6136093587156985215 : True := trivial
theorem hdT.tw8296667696301474193 : True := trivial
theorem hdT.tw1268191746442894382 : True := trivial
theorem hdT.tw6670617395169278514 : True := trivial
theorem hdT.tw12784360240843720142 : True := trivial
theorem hdT.tw16214489315169158900 : True := trivial
theorem hdT.tw12848851418496564332 : True := trivial
theorem hdT.tw17323566721633243856 : True := trivial
theorem hdT.tw1994805565058289416 : True := trivial
theorem hdT.tw13185223269041771558 : True := trivial
theorem hdT.tw6775557273698249387 : True := trivial
theorem hdT.tw822856507448853781 : True := trivial
theorem hdT.tw1759045066290804585 : True := trivial
theorem hdT.tw15543842933211244073 : True := trivial
theorem hdT.tw9083635313989964351 : True := trivial
theorem hdT.tw3597019560688039107 : True := trivial
theorem hdT.tw5340122980169538509 : True := trivial
theorem hdT.tw7546123832575513691 : True := trivial
theorem hdT.tw13329559452079177445 : True := trivial
theorem hdT.tw17151064592585248314 : True := trivial
theorem hdT.tw1145438229332021567 : True := trivial
theorem hdT.tw12097682857056489229 : True := trivial
theorem hdT.tw11613489809167172214 : True := trivial
theorem hdT.tw9068879478100896929 : True := trivial
theorem hdT.tw2339369739504128151 : True := trivial
theorem hdT.tw9044453912763272853 : True := trivial
theorem hdT.tw9571535370773033377 : True := trivial
theorem hdT.tw12476784377090588212 : True := trivial
theorem hdT.tw16108318809565218085 : True := trivial
theorem hdT.tw11372179145829416100 : True := trivial
theorem hdT.tw2027763147986355455 : True := trivial
theorem hdT.tw375954380560858608 : True := trivial
theorem hdT.tw15609716034131776777 : True := trivial
theorem hdT.tw2847899997164225806 : True := trivial
theorem hdT.tw18431168122545246677 : True := trivial
theorem hdT.tw2543978539304783637 : True := trivial
theorem hdT.tw1604004307016998346 : True := trivial
theorem hdT.tw12217529378293269236 : True := trivial
theorem hdT.tw13711046040431484001 : True := trivial
theorem hdT.tw18323763663938697113 : True := trivial
theorem hdT.tw157059411357500568 : True := trivial
theorem hdT.tw14635209518871669915 : True := trivial
theorem hdT.tw4579577086566881272 : True := trivial
theorem hdT.tw11755220345028815485 : True := trivial
theorem hdT.tw10544611178586225868 : True := trivial
theorem hdT.tw10176395992278642552 : True := trivial
theorem hdT.tw12241174457043170865 : True := trivial
theorem hdT.tw10711610238166011483 : True := trivial
theorem hdT.tw1193177490992119184 : True := trivial
theorem hdT.tw13998528116607763878 : True := trivial
theorem hdT.tw10783158620024282116 : True := trivial
theorem hdT.tw5372194639915530387 : True := trivial
theorem hdT.tw6102591234981962261 : True := trivial
theorem hdT.tw7383460302375847559 : True := trivial
theorem hdT.tw2539720526774857002 : True := trivial
theorem hdT.tw14160156649444742558 : True := trivial
theorem hdT.tw4527832340654653562 : True := trivial
theorem hdT.tw8963410544312951271 : True := trivial
theorem hdT.tw1743478796703445569 : True := trivial
theorem hdT.tw9798339236106811196 : True := trivial
theorem hdT.tw8072592181832140243 : True := trivial
theorem hdT.tw2857486579997302598 : True := trivial
theorem hdT.tw3303203929878661176 : True := trivial
theorem hdT.tw2928540441907677951 : True := trivial
theorem hdT.tw12078823273170598061 : True := trivial
theorem hdT.tw10787778145814024080 : True := trivial
theorem hdT.tw3623382836928382511 : True := trivial
theorem hdT.tw5691128966781905093 : True := trivial
theorem hdT.tw2247844110553814248 : True := trivial
theorem hdT.tw3475902865807220180 : True := trivial
theorem hdT.tw9051283861715131946 : True := trivial
theorem hdT.tw6455987785740402643 : True := trivial
theorem hdT.tw15241406090431451857 : True := trivial
theorem hdT.tw10323790414895024552 : True := trivial
theorem hdT.tw2657588340156428226 : True := trivial
theorem hdT.tw7383831400874300713 : True := trivial
theorem hdT.tw12214340855711000089 : True := trivial
theorem hdT.tw7125072713232967047 : True := trivial
theorem hdT.tw2727673047806841075 : True := trivial
theorem hdT.tw11275849817020842167 : True := trivial
theorem hdT.tw14243037624748947413 : True := trivial
theorem hdT.tw5429872173572285534 : True := trivial
theorem hdT.tw17370461868930270551 : True := trivial
theorem hdT.tw9054821845631497969 : True := trivial
theorem hdT.tw6498902760113667540 : True := trivial
theorem hdT.tw6739956485725728979 : True := trivial
theorem hdT.tw8697609910814775846 : True := trivial
theorem hdT.tw11786815773050827325 : True := trivial
theorem hdT.tw6134002508673835281 : True := trivial
theorem hdT.tw18142978766235501769 : True := trivial
theorem hdT.tw5100337038175710370 : True := trivial
theorem hdT.tw16169267508442259383 : True := trivial
theorem hdT.tw12103893770153526615 : True := trivial
theorem hdT.tw2951386002248001958 : True := trivial
theorem hdT.tw17212982446460151239 : True := trivial
theorem hdT.tw11714566110517299753 : True := trivial
theorem hdT.tw9119509293607635002 : True := trivial
theorem hdT.tw5938935180784926153 : True := trivial
theorem hdT.tw13505110906838074834 : True := trivial
theorem hdT.tw6722888759846166110 : True := trivial
theorem hdT.tw7786317283908027664 : True := trivial
theorem hdT.tw1041002507800964818 : True := trivial
theorem hdT.tw18135067806621036532 : True := trivial
theorem hdT.tw15617995345080321057 : True := trivial
theorem hdT.tw17888196217835294753 : True := trivial
theorem hdT.tw9063316141770240257 : True := trivial
theorem hdT.tw18254240964156342577 : True := trivial
theorem hdT.tw15786061811284279205 : True := trivial
theorem hdT.tw15516655964833713379 : True := trivial
theorem hdT.tw6958645189134850556 : True := trivial
theorem hdT.tw14793636826967330735 : True := trivial
theorem hdT.tw6789686797176568049 : True := trivial
theorem hdT.tw17419156074687965551 : True := trivial
theorem hdT.tw960050848766937271 : True := trivial
theorem hdT.tw2915261920159502568 : True := trivial
theorem hdT.tw2888049423600391730 : True := trivial
theorem hdT.tw1046303050538599212 : True := trivial
theorem hdT.tw8224041156636738495 : True := trivial
theorem hdT.tw4254185697877881885 : True := trivial
theorem hdT.tw7466842042219869460 : True := trivial
theorem hdT.tw6667215365287554490 : True := trivial
theorem hdT.tw15897372841331253298 : True := trivial
theorem hdT.tw7361712229594404225 : True := trivial
theorem hdT.tw15313315209409171270 : True := trivial
theorem hdT.tw12693335245358512814 : True := trivial
theorem hdT.tw15997896964119252480 : True := trivial
theorem hdT.tw18402769245516950960 : True := trivial
theorem hdT.tw10734110473604000413 : True := trivial
theorem hdT.tw8472439999578884724 : True := trivial
theorem hdT.tw9294019548499875384 : True := trivial
theorem hdT.tw13195987100727223770 : True := trivial
theorem hdT.tw14680936511344029933 : True := trivial
theorem hdT.tw10619363654360093604 : True := trivial
theorem hdT.tw6841577446531214128 : True := trivial
theorem hdT.tw18146764690948789024 : True := trivial
theorem hdT.tw8250881577931313657 : True := trivial
theorem hdT.tw7378976414268029503 : True := trivial
theorem hdT.tw3786290960044989686 : True := trivial
theorem hdT.tw10734346761020631068 : True := trivial
theorem hdT.tw11867153735268645938 : True := trivial
theorem hdT.tw11435658123040128006 : True := trivial
theorem hdT.tw12431542053280375191 : True := trivial
theorem hdT.tw3691545737793461076 : True := trivial
theorem hdT.tw12634102005968315378 : True := trivial
theorem hdT.tw2956658484386022912 : True := trivial
theorem hdT.tw8287701665231782586 : True := trivial
theorem hdT.tw16003616904477165510 : True := trivial
theorem hdT.tw2210865022817550754 : True := trivial
theorem hdT.tw11131275715287355575 : True := trivial
theorem hdT.tw13907023301156516989 : True := trivial
theorem hdT.tw18181741721357114627 : True := trivial
theorem hdT.tw16661676742480009506 : True := trivial
theorem hdT.tw3048625272048801309 : True := trivial
theorem hdT.tw8344245260858803287 : True := trivial
theorem hdT.tw15419372733056382389 : True := trivial
theorem hdT.tw12528596615628285788 : True := trivial
theorem hdT.tw7027638596102340610 : True := trivial
theorem hdT.tw1282731619024302628 : True := trivial
theorem hdT.tw2391073300771724814 : True := trivial
theorem hdT.tw10618657522404741396 : True := trivial
theorem hdT.tw14739110467874880269 : True := trivial
theorem hdT.tw13901490053756404744 : True := trivial
theorem hdT.tw4473644792770490912 : True := trivial
theorem hdT.tw3652933058558730751 : True := trivial
theorem hdT.tw17702541783860777945 : True := trivial
theorem hdT.tw905587528695013960 : True := trivial
theorem hdT.tw6340907260889010371 : True := trivial
theorem hdT.tw7949111435810904832 : True := trivial
theorem hdT.tw12669503823874496449 : True := trivial
theorem hdT.tw3934727508531410775 : True := trivial
theorem hdT.tw7412915315532814855 : True := trivial
theorem hdT.tw9076112677130314605 : True := trivial
theorem hdT.tw14899287272273142816 : True := trivial
theorem hdT.tw17943681747480410696 : True := trivial
theorem hdT.tw1368098252954153590 : True := trivial
theorem hdT.tw1016409337160901120 : True := trivial
theorem hdT.tw2047077231110316048 : True := trivial
theorem hdT.tw11636107060374798686 : True := trivial
theorem hdT.tw17660300241523374330 : True := trivial
theorem hdT.tw98075271140989712 : True := trivial
theorem hdT.tw16541751714859608290 : True := trivial
theorem hdT.tw3305749480084898945 : True := trivial
theorem hdT.tw13661287511392017892 : True := trivial
theorem hdT.tw123686674118195260 : True := trivial
theorem hdT.tw11759856159870746441 : True := trivial
theorem hdT.tw14738332839276273773 : True := trivial
theorem hdT.tw7266376299009869524 : True := trivial
theorem hdT.tw11905555436331314192 : True := trivial
theorem hdT.tw2520595883203713878 : True := trivial
theorem hdT.tw10775545438231040131 : True := trivial
theorem hdT.tw15649738087625292210 : True := trivial
theorem hdT.tw13173631372972213194 : True := trivial
theorem hdT.tw2150228535269823783 : True := trivial
theorem hdT.tw15729114282328834007 : True := trivial
theorem hdT.tw446475844140859903 : True := trivial
theorem hdT.tw15513460198188007025 : True := trivial
theorem hdT.tw16111828553661657759 : True := trivial
theorem hdT.tw3964741812652841094 : True := trivial
theorem hdT.tw12890025377783325011 : True := trivial
theorem hdT.tw17704734469149224921 : True := trivial
theorem hdT.tw17274611573127296362 : True := trivial
theorem hdT.tw542248526100295013 : True := trivial
theorem hdT.tw15316214492922139463 : True := trivial
theorem hdT.tw1285798067458324753 : True := trivial
theorem hdT.tw13279870413759428154 : True := trivial
theorem hdT.tw15541911741645186728 : True := trivial
theorem hdT.tw5165581774834855932 : True := trivial
theorem hdT.tw2573676684247115121 : True := trivial
theorem hdT.tw2625485059379306636 : True := trivial
theorem hdT.tw2013409472790794623 : True := trivial
theorem hdT.tw9089277918775038142 : True := trivial
theorem hdT.tw9383755259358098369 : True := trivial
theorem hdT.tw1307998178567594954 : True := trivial
theorem hdT.tw13786714389439647722 : True := trivial
theorem hdT.tw11317579533362982705 : True := trivial
theorem hdT.tw15176716407839422527 : True := trivial
theorem hdT.tw15781415185009098019 : True := trivial
theorem hdT.tw12779001571807900022 : True := trivial
theorem hdT.tw9312038325950460635 : True := trivial
theorem hdT.tw4318492586405154787 : True := trivial
theorem hdT.tw6285167004378408775 : True := trivial
theorem hdT.tw2735428037448430824 : True := trivial
theorem hdT.tw10414193584920412627 : True := trivial
theorem hdT.tw17804484615444265320 : True := trivial
theorem hdT.tw13102605487479191858 : True := trivial
theorem hdT.tw4901701916038814030 : True := trivial
theorem hdT.tw4410027799531969111 : True := trivial
theorem hdT.tw2026564882714474611 : True := trivial
theorem hdT.tw13204161976637456802 : True := trivial
theorem hdT.tw8629024110906615861 : True := trivial
theorem hdT.tw15437119681586835782 : True := trivial
theorem hdT.tw10067355104075643275 : True := trivial
theorem hdT.tw1923917731997800541 : True := trivial
theorem hdT.tw5409318470822155906 : True := trivial
theorem hdT.tw14749652554219716343 : True := trivial
theorem hdT.tw12332239120535128740 : True := trivial
theorem hdT.tw3891816665721259602 : True := trivial
theorem hdT.tw18241957777257879750 : True := trivial
theorem hdT.tw16619460248487745004 : True := trivial
theorem hdT.tw1003586568341054027 : True := trivial
theorem hdT.tw5856148982977898499 : True := trivial
theorem hdT.tw10572733635573505725 : True := trivial
theorem hdT.tw17196491154680774549 : True := trivial
theorem hdT.tw8317748790123228767 : True := trivial
theorem hdT.tw7537462302237696571 : True := trivial
theorem hdT.tw17279418265372097916 : True := trivial
theorem hdT.tw8343146700199848716 : True := trivial
theorem hdT.tw11680981566860643967 : True := trivial
theorem hdT.tw18403864235283672485 : True := trivial
theorem hdT.tw5917294072330248093 : True := trivial
theorem hdT.tw16689321103079575415 : True := trivial
theorem hdT.tw16105270477283430567 : True := trivial
theorem hdT.tw17049085943102205794 : True := trivial
theorem hdT.tw4870820990998705960 : True := trivial
theorem hdT.tw5260378216028650820 : True := trivial
theorem hdT.tw16707821526901707475 : True := trivial
theorem hdT.tw15874489536405178614 : True := trivial
theorem hdT.tw6791312159097376134 : True := trivial
theorem hdT.tw17990951745574838045 : True := trivial
theorem hdT.tw8639440022213153879 : True := trivial
theorem hdT.tw16369945672113799430 : True := trivial
theorem hdT.tw5356652380331131648 : True := trivial
theorem hdT.tw8698424893286483627 : True := trivial
theorem hdT.tw5605740251130056851 : True := trivial
theorem hdT.tw1463137707611815181 : True := trivial
theorem hdT.tw18339263457832828270 : True := trivial
theorem hdT.tw17850443551450840944 : True := trivial
theorem hdT.tw8259725323803305940 : True := trivial
theorem hdT.tw7855729953441644567 : True := trivial
theorem hdT.tw13316687733899125188 : True := trivial
theorem hdT.tw11138982444225711653 : True := trivial
theorem hdT.tw10470178637503726571 : True := trivial
theorem hdT.tw14390980076652992266 : True := trivial
theorem hdT.tw12616172019080302470 : True := trivial
theorem hdT.tw6748181097363703541 : True := trivial
theorem hdT.tw16823623234370747431 : True := trivial
theorem hdT.tw11542872704083187369 : True := trivial
theorem hdT.tw6126834691248478450 : True := trivial
theorem hdT.tw8503660711936515776 : True := trivial
theorem hdT.tw3053013060441865201 : True := trivial
theorem hdT.tw11203037126535159687 : True := trivial
theorem hdT.tw4160381695852730747 : True := trivial
theorem hdT.tw13921838146772490189 : True := trivial
theorem hdT.tw4895140127428138000 : True := trivial
theorem hdT.tw18329903030470619778 : True := trivial
theorem hdT.tw17977988725892707158 : True := trivial
theorem hdT.tw7723371066258716378 : True := trivial
theorem hdT.tw1989478745651664532 : True := trivial
theorem hdT.tw17154144827933080058 : True := trivial
theorem hdT.tw8586098045395995821 : True := trivial
theorem hdT.tw5163333308569226706 : True := trivial
theorem hdT.tw5502607343161352764 : True := trivial
theorem hdT.tw1559350885289867682 : True := trivial
theorem hdT.tw4306564808082017633 : True := trivial
theorem hdT.tw15245239720828614882 : True := trivial
theorem hdT.tw17566815818235708725 : True := trivial
theorem hdT.tw9380053455917048403 : True := trivial
theorem hdT.tw3340316414879853702 : True := trivial
theorem hdT.tw9988109110853653462 : True := trivial
theorem hdT.tw15966169735260121141 : True := trivial
theorem hdT.tw11487036344001518079 : True := trivial
theorem hdT.tw13434923799626022156 : True := trivial
theorem hdT.tw6062054041289883069 : True := trivial
theorem hdT.tw2436422211977766078 : True := trivial
theorem hdT.tw3569573548083652402 : True := trivial
theorem hdT.tw11724997633183693912 : True := trivial
theorem hdT.tw9160942786681829764 : True := trivial
theorem hdT.tw10413290030777078302 : True := trivial
theorem hdT.tw9095357839185793764 : True := trivial
theorem hdT.tw6033919521562791155 : True := trivial
theorem hdT.tw2307090439938425327 : True := trivial
theorem hdT.tw7410480008539292383 : True := trivial
theorem hdT.tw1704360944293837785 : True := trivial
theorem hdT.tw2317740693662035978 : True := trivial
theorem hdT.tw9743262540276851430 : True := trivial
theorem hdT.tw1553361418407970481 : True := trivial
theorem hdT.tw7501607617449540448 : True := trivial
theorem hdT.tw7136564018072386347 : True := trivial
theorem hdT.tw11018788065075084025 : True := trivial
theorem hdT.tw10419726682591262557 : True := trivial
theorem hdT.tw2452211869294023338 : True := trivial
theorem hdT.tw5601004457566101756 : True := trivial
theorem hdT.tw2143957283656266077 : True := trivial
theorem hdT.tw13367441443243330751 : True := trivial
theorem hdT.tw2152687164418267720 : True := trivial
theorem hdT.tw5502382909086503705 : True := trivial
theorem hdT.tw185286079852928538 : True := trivial
theorem hdT.tw14420782012553526155 : True := trivial
theorem hdT.tw12163744985405934773 : True := trivial
theorem hdT.tw2590165118902636919 : True := trivial
theorem hdT.tw15139554571385455295 : True := trivial
theorem hdT.tw1520117329010893095 : True := trivial
theorem hdT.tw8125986697966438625 : True := trivial
theorem hdT.tw14054796820074350648 : True := trivial
theorem hdT.tw15870507963705638482 : True := trivial
theorem hdT.tw8059042711464421741 : True := trivial
theorem hdT.tw5747501506443722968 : True := trivial
theorem hdT.tw15894074919283784595 : True := trivial
theorem hdT.tw9978259848379511098 : True := trivial
theorem hdT.tw15714461656670823269 : True := trivial
theorem hdT.tw14646731528478996707 : True := trivial
theorem hdT.tw14358304341664772782 : True := trivial
theorem hdT.tw2921489290202636354 : True := trivial
theorem hdT.tw3937244442570227343 : True := trivial
theorem hdT.tw5493415599788509693 : True := trivial
theorem hdT.tw2110733675783530212 : True := trivial
theorem hdT.tw4882206569832762009 : True := trivial
theorem hdT.tw17008556930567598020 : True := trivial
theorem hdT.tw5055731070195491554 : True := trivial
theorem hdT.tw14116893189291779112 : True := trivial
theorem hdT.tw136063440050343210 : True := trivial
theorem hdT.tw11015649899063884283 : True := trivial
theorem hdT.tw5153904615180192362 : True := trivial
theorem hdT.tw11921933945238363750 : True := trivial
theorem hdT.tw2096941204305443750 : True := trivial
theorem hdT.tw18097265767344203094 : True := trivial
theorem hdT.tw6975353774855479699 : True := trivial
theorem hdT.tw6408363902074713917 : True := trivial
theorem hdT.tw708045295726102117 : True := trivial
theorem hdT.tw13511928953172602288 : True := trivial
theorem hdT.tw16238695689765254002 : True := trivial
theorem hdT.tw2591819956746355244 : True := trivial
theorem hdT.tw11199705531422776145 : True := trivial
theorem hdT.tw1867445733062264701 : True := trivial
theorem hdT.tw7217518033528309941 : True := trivial
theorem hdT.tw13640092940950944718 : True := trivial
theorem hdT.tw14550229436542405152 : True := trivial
theorem hdT.tw3120113681926121877 : True := trivial
theorem hdT.tw5715541218033375376 : True := trivial
theorem hdT.tw16660877896988103928 : True := trivial
theorem hdT.tw10746670940284610437 : True := trivial
theorem hdT.tw15694488320144950346 : True := trivial
theorem hdT.tw6096052327025629822 : True := trivial
theorem hdT.tw7039955194728326051 : True := trivial
theorem hdT.tw5607320358360422370 : True := trivial
theorem hdT.tw16659000165413568518 : True := trivial
theorem hdT.tw614904304593535612 : True := trivial
theorem hdT.tw16539148576436122313 : True := trivial
theorem hdT.tw2959161835317433322 : True := trivial
theorem hdT.tw6875959193363691686 : True := trivial
theorem hdT.tw2578351281817413193 : True := trivial
theorem hdT.tw4476036477331449620 : True := trivial
theorem hdT.tw6131462240629131000 : True := trivial
theorem hdT.tw17156949415198633774 : True := trivial
theorem hdT.tw10865885875968670224 : True := trivial
theorem hdT.tw14441849217696572001 : True := trivial
theorem hdT.tw5989770250344729309 : True := trivial
theorem hdT.tw5825364656412045018 : True := trivial
theorem hdT.tw9458655423726856729 : True := trivial
theorem hdT.tw16358887474051182817 : True := trivial
theorem hdT.tw103841106966163747 : True := trivial
theorem hdT.tw1769862425480128937 : True := trivial
theorem hdT.tw9736829806540214903 : True := trivial
theorem hdT.tw10212826435615706971 : True := trivial
theorem hdT.tw10439521527477894234 : True := trivial
theorem hdT.tw11863797003897172085 : True := trivial
theorem hdT.tw14081329003077593056 : True := trivial
theorem hdT.tw6005223870892913473 : True := trivial
theorem hdT.tw17229581232428075190 : True := trivial
theorem hdT.tw18190383041204214644 : True := trivial
theorem hdT.tw5853876167621158507 : True := trivial
theorem hdT.tw1566920424647158498 : True := trivial
theorem hdT.tw7506629604006075977 : True := trivial
theorem hdT.tw1837387332829055383 : True := trivial
theorem hdT.tw11151343764693416090 : True := trivial
theorem hdT.tw16911082514686179566 : True := trivial
theorem hdT.tw14596787741471266818 : True := trivial
theorem hdT.tw14889336212933601618 : True := trivial
theorem hdT.tw4826709780904878789 : True := trivial
theorem hdT.tw6381563940363135200 : True := trivial
theorem hdT.tw7853958019229731579 : True := trivial
theorem hdT.tw13135032373196411520 : True := trivial
theorem hdT.tw2183507218278447879 : True := trivial
theorem hdT.tw3470672704688877459 : True := trivial
theorem hdT.tw14544301321182030741 : True := trivial
theorem hdT.tw17503535016915526970 : True := trivial
set_option Elab.async true in
theorem hdT : PySem.Challenge.rw_np0094_01.Holds := by
  w_on; o_law; o_head (kHook Kf kfL kfAs)
  case hw => w_witness2
  exact lawW rfl
end
end Mine
theorem PySem.Challenge.cw_np0094_01_holds : PySem.Challenge.rw_np0094_01.Holds := by
  exact Mine.hdT
