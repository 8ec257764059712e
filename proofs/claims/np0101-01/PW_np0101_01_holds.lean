import PyProof.Rows.All
import Wide.All
import OpenK.AllK
import Wide.FinOn
import Lean
import PySem.Challenge.RW_np0101_01
open PySem PySem.W PySem.Calls PySem.Spec PyProof.Rows
set_option Elab.async false
set_option linter.unusedVariables false
namespace Mine
-- H1
section
set_option maxRecDepth 1000000
abbrev S (x : String) : Str := Str.ofString x
abbrev H (P : Params) (x : Str) : Int := PyData.keyHash P x
abbrev pw : Program := PySem.Challenge.pw_np0101_01
noncomputable def st (i : Nat) : Stmt := (pw.main.body[i]?).getD (.Pass ⟨0, 0, 0, 0⟩)
noncomputable def stIn (i j : Nat) : Stmt := match st i with
  | .ClassDef _ _ _ b .. => (b[j]?).getD (.Pass ⟨0, 0, 0, 0⟩)
  | s => s
noncomputable def mkFn (s : Stmt) (qual : Str) (dV kV doc pm : Value) (an : Option Addr) (cdv ct : Value) : FuncData := match s with
  | .FunctionDef n a b _ _ _ sc _ _ _ => fnOf n qual a b sc dV kV doc pm an cdv ct
  | _ => default
noncomputable def mkFn0 (s : Stmt) (qual : Str) (dV kV doc pm : Value) (an : Option Addr) (cdv ct : Value) : FuncData := { mkFn s qual dV kV doc pm an cdv ct with globals := 0 }
noncomputable def b0 (P : Params) : Obj := PySem.W.boot_o_0 P
noncomputable def b1 (P : Params) : Obj := PySem.W.boot_o_1 P
noncomputable def b2 (P : Params) : Obj := ⟨.none, none, (.dict #[⟨H P (S "type.__subclasses__.Exception.0"), (.str (S "type.__subclasses__.Exception.0") 329), (.int (96) 0)⟩, ⟨H P (S "type.__subclasses__.Exception.n"), (.str (S "type.__subclasses__.Exception.n") 330), (.int (1) 0)⟩] 2), #[]⟩
noncomputable def b3 (P : Params) : Obj := ⟨(.type "dict"), none, (.dict #[⟨H P (S "__name__"), (.str (S "__name__") 165), (.str (S "law_np0101_01") 1148)⟩, ⟨H P (S "__doc__"), (.str (S "__doc__") 166), .none⟩, ⟨H P (S "__package__"), (.str (S "__package__") 167), .none⟩, ⟨H P (S "__loader__"), (.str (S "__loader__") 168), (.builtin "__main__.__loader__#opaque")⟩, ⟨H P (S "__spec__"), (.str (S "__spec__") 169), .none⟩, ⟨H P (S "__annotations__"), (.str (S "__annotations__") 170), (.ref 6)⟩, ⟨H P (S "__builtins__"), (.str (S "__builtins__") 171), (.ref 4)⟩, ⟨H P (S "__file__"), (.str (S "__file__") 173), (.str (S "/claim/cut.py") 172)⟩, ⟨H P (S "__cached__"), (.str (S "__cached__") 174), .none⟩, ⟨H P (S "_wall"), (.str (S "_wall") 193), (.ref 21)⟩, ⟨H P (S "ParseState"), (.str (S "ParseState") 280), (.ref 68)⟩, ⟨H P (S "state_of"), (.str (S "state_of") 299), (.ref 79)⟩, ⟨H P (S "LispSignal"), (.str (S "LispSignal") 332), (.ref 96)⟩, ⟨H P (S "WHITESPACE"), (.str (S "WHITESPACE") 336), (.str (S " ") 335)⟩, ⟨H P (S "WORD"), (.str (S "WORD") 338), (.str (S "w") 337)⟩, ⟨H P (S "SYMBOL"), (.str (S "SYMBOL") 340), (.str (S "_") 339)⟩, ⟨H P (S "PUNCTUATION"), (.str (S "PUNCTUATION") 342), (.str (S ".") 341)⟩, ⟨H P (S "OPENS"), (.str (S "OPENS") 344), (.str (S "(") 343)⟩, ⟨H P (S "CLOSES"), (.str (S "CLOSES") 346), (.str (S ")") 345)⟩, ⟨H P (S "PREFIX"), (.str (S "PREFIX") 348), (.str (S "'") 347)⟩, ⟨H P (S "STRING"), (.str (S "STRING") 350), (.str (S "\"") 349)⟩, ⟨H P (S "ESCAPE"), (.str (S "ESCAPE") 352), (.str (S "\\") 351)⟩, ⟨H P (S "QUOTES"), (.str (S "QUOTES") 354), (.str (S "/") 353)⟩, ⟨H P (S "PAIRED"), (.str (S "PAIRED") 356), (.str (S "$") 355)⟩, ⟨H P (S "BEGINS"), (.str (S "BEGINS") 358), (.str (S "<") 357)⟩, ⟨H P (S "ENDS"), (.str (S "ENDS") 360), (.str (S ">") 359)⟩, ⟨H P (S "INHERITS"), (.str (S "INHERITS") 362), (.str (S "@") 361)⟩, ⟨H P (S "COMMENT_FENCE"), (.str (S "COMMENT_FENCE") 364), (.str (S "!") 363)⟩, ⟨H P (S "STRING_FENCE"), (.str (S "STRING_FENCE") 366), (.str (S "|") 365)⟩, ⟨H P (S "KINDS"), (.str (S "KINDS") 368), (.str (S " w_.()'\"\\/$<>@!|") 367)⟩, ⟨H P (S "FLAGS"), (.str (S "FLAGS") 370), (.str (S "1234bcnp") 369)⟩, ⟨H P (S "Syntax"), (.str (S "Syntax") 432), (.ref 144)⟩, ⟨H P (S "sorted_flags"), (.str (S "sorted_flags") 438), (.ref 153)⟩, ⟨H P (S "read_syntax"), (.str (S "read_syntax") 444), (.ref 158)⟩, ⟨H P (S "SyntaxTable"), (.str (S "SyntaxTable") 538), (.ref 225)⟩, ⟨H P (S "letters"), (.str (S "letters") 544), (.ref 236)⟩, ⟨H P (S "standard_table"), (.str (S "standard_table") 553), (.ref 243)⟩, ⟨H P (S "Mark"), (.str (S "Mark") 590), (.ref 260)⟩, ⟨H P (S "syntax_at"), (.str (S "syntax_at") 600), (.ref 271)⟩, ⟨H P (S "pair_style"), (.str (S "pair_style") 609), (.ref 278)⟩, ⟨H P (S "begin_mark"), (.str (S "begin_mark") 620), (.ref 285)⟩, ⟨H P (S "end_mark"), (.str (S "end_mark") 631), (.ref 292)⟩, ⟨H P (S "fits"), (.str (S "fits") 641), (.ref 299)⟩, ⟨H P (S "is_quoted"), (.str (S "is_quoted") 652), (.ref 306)⟩, ⟨H P (S "Walk"), (.str (S "Walk") 839), (.ref 442)⟩, ⟨H P (S "comment_end"), (.str (S "comment_end") 851), (.ref 453)⟩, ⟨H P (S "spans_to"), (.str (S "spans_to") 866), (.ref 460)⟩, ⟨H P (S "ENDS_TOO_SOON"), (.str (S "ENDS_TOO_SOON") 870), (.str (S "Containing expression ends prematurely") 869)⟩, ⟨H P (S "UNBALANCED"), (.str (S "UNBALANCED") 872), (.str (S "Unbalanced parentheses") 871)⟩, ⟨H P (S "Scan"), (.str (S "Scan") 950), (.ref 512)⟩, ⟨H P (S "string_end"), (.str (S "string_end") 963), (.ref 523)⟩, ⟨H P (S "word_end"), (.str (S "word_end") 973), (.ref 530)⟩, ⟨H P (S "step_forward"), (.str (S "step_forward") 984), (.ref 537)⟩, ⟨H P (S "take_kind"), (.str (S "take_kind") 994), (.ref 544)⟩, ⟨H P (S "forward_one"), (.str (S "forward_one") 1006), (.ref 551)⟩, ⟨H P (S "string_begin"), (.str (S "string_begin") 1019), (.ref 558)⟩, ⟨H P (S "word_begin"), (.str (S "word_begin") 1030), (.ref 565)⟩, ⟨H P (S "step_backward"), (.str (S "step_backward") 1044), (.ref 572)⟩, ⟨H P (S "backward_one"), (.str (S "backward_one") 1058), (.ref 579)⟩, ⟨H P (S "scan_by"), (.str (S "scan_by") 1070), (.ref 586)⟩, ⟨H P (S "scan_lists"), (.str (S "scan_lists") 1081), (.ref 593)⟩, ⟨H P (S "scan_sexps"), (.str (S "scan_sexps") 1091), (.ref 600)⟩, ⟨H P (S "TextRow"), (.str (S "TextRow") 1147), (.ref 639)⟩, ⟨H P (S "_law_deck"), (.str (S "_law_deck") 1155), (.ref 648)⟩, ⟨H P (S "_law_draw"), (.str (S "_law_draw") 1165), (.ref 655)⟩, ⟨H P (S "_law_many"), (.str (S "_law_many") 1171), (.ref 660)⟩, ⟨H P (S "_law_word_end"), (.str (S "_law_word_end") 1179), (.ref 667)⟩, ⟨H P (S "_law_one"), (.str (S "_law_one") 1192), (.ref 674)⟩, ⟨H P (S "_law_scan"), (.str (S "_law_scan") 1205), (.ref 681)⟩, ⟨H P (S "_law_due"), (.str (S "_law_due") 1211), (.ref 686)⟩, ⟨H P (S "_law_told"), (.str (S "_law_told") 1225), (.ref 693)⟩, ⟨H P (S "law"), (.str (S "law") 1231), (.ref 698)⟩] 72), #[]⟩
noncomputable def b4 (P : Params) : Obj := PySem.W.boot_o_4 P
noncomputable def b5 (P : Params) : Obj := PySem.W.boot_o_5 P
noncomputable def b6 (P : Params) : Obj := PySem.W.boot_o_6 P
noncomputable def b7 (P : Params) : Obj := PySem.W.boot_o_7 P
noncomputable def b8 (P : Params) : Obj := PySem.W.boot_o_8 P
noncomputable def b9 (P : Params) : Obj := PySem.W.boot_o_9 P
noncomputable def b10 (P : Params) : Obj := PySem.W.boot_o_10 P
noncomputable def b11 (P : Params) : Obj := ⟨(.type "tuple"), none, (.seq #[] 0), #[]⟩
noncomputable def b12 (P : Params) : Obj := ⟨.none, none, (.fields #[(.int (1) 0), (.int (0) 0), (.ref 20), (.int (5) 0), (.int (0) 0), (.ref 27), (.int (33) 0), (.int (0) 0), (.ref 78), (.int (37) 0), (.int (0) 0), (.ref 85), (.int (61) 0), (.int (0) 0), (.ref 105), (.int (79) 0), (.int (0) 0), (.ref 152), (.int (81) 0), (.int (0) 0), (.ref 157), (.int (90) 0), (.int (0) 0), (.ref 164), (.int (125) 0), (.int (0) 0), (.ref 235), (.int (127) 0), (.int (0) 0), (.ref 242), (.int (140) 0), (.int (0) 0), (.ref 249), (.int (147) 0), (.int (0) 0), (.ref 270), (.int (150) 0), (.int (0) 0), (.ref 277), (.int (153) 0), (.int (0) 0), (.ref 284), (.int (162) 0), (.int (0) 0), (.ref 291), (.int (171) 0), (.int (0) 0), (.ref 298), (.int (175) 0), (.int (0) 0), (.ref 305), (.int (183) 0), (.int (0) 0), (.ref 312), (.int (346) 0), (.int (0) 0), (.ref 452), (.int (354) 0), (.int (0) 0), (.ref 459), (.int (368) 0), (.int (0) 0), (.ref 466), (.int (404) 0), (.int (0) 0), (.ref 522), (.int (414) 0), (.int (0) 0), (.ref 529), (.int (425) 0), (.int (0) 0), (.ref 536), (.int (451) 0), (.int (0) 0), (.ref 543), (.int (458) 0), (.int (0) 0), (.ref 550), (.int (469) 0), (.int (0) 0), (.ref 557), (.int (479) 0), (.int (0) 0), (.ref 564), (.int (489) 0), (.int (0) 0), (.ref 571), (.int (515) 0), (.int (0) 0), (.ref 578), (.int (527) 0), (.int (0) 0), (.ref 585), (.int (537) 0), (.int (0) 0), (.ref 592), (.int (539) 0), (.int (0) 0), (.ref 599), (.int (542) 0), (.int (0) 0), (.ref 606), (.int (559) 0), (.int (0) 0), (.ref 647), (.int (562) 0), (.int (0) 0), (.ref 654), (.int (573) 0), (.int (0) 0), (.ref 659), (.int (578) 0), (.int (0) 0), (.ref 666), (.int (582) 0), (.int (0) 0), (.ref 673), (.int (598) 0), (.int (0) 0), (.ref 680), (.int (606) 0), (.int (0) 0), (.ref 685), (.int (613) 0), (.int (0) 0), (.ref 692), (.int (622) 0), (.int (0) 0), (.ref 697)]), #[]⟩
noncomputable def b13 (P : Params) : Obj := ⟨(.type "code"), none, (.fields #[(.str (S "<module>") 182), (.str (S "<module>") 183), (.str (S "/claim/cut.py") 184), (.int (1) 0), (.int (0) 0), (.int (0) 0), (.int (0) 0), (.int (0) 0), (.ref 11), (.bool false), (.int (181) 0), (.ref 12), .none, .none, .none, .none, (.int (185) 0), (.int (1) 0), (.str (S "/claim/cut.py") 186)]), #[]⟩
noncomputable def b14 (P : Params) : Obj := ⟨(.type "frame"), none, .plain, #[(some (.ref 13)), (some (.ref 3)), (some (.ref 3)), none, (some (.str (S "__main__") 164)), none, (some (.ref 0))]⟩
noncomputable def b15 (P : Params) : Obj := ⟨(.type "tuple"), none, (.seq #[] 0), #[]⟩
noncomputable def b16 (P : Params) : Obj := ⟨.none, none, (.fields #[]), #[]⟩
noncomputable def b17 (P : Params) : Obj := ⟨(.type "tuple"), none, (.seq #[(.str (S "k") 190)] 0), #[]⟩
noncomputable def b18 (P : Params) : Obj := ⟨(.type "tuple"), none, (.seq #[] 0), #[]⟩
noncomputable def b19 (P : Params) : Obj := ⟨.none, none, (.func (mkFn0 (st 0) (S "_wall") .none .none .none .none none .none .none)), #[]⟩
noncomputable def b20 (P : Params) : Obj := ⟨(.type "code"), none, (.fields #[(.str (S "_wall") 187), (.str (S "_wall") 188), (.str (S "/claim/cut.py") 189), (.int (1) 0), (.int (1) 0), (.int (0) 0), (.int (0) 0), (.int (3) 0), (.ref 15), (.bool true), (.int (181) 0), (.ref 16), .none, (.ref 17), (.ref 18), (.ref 19), (.int (191) 0), (.int (1) 0), (.str (S "/claim/cut.py") 192)]), #[]⟩
noncomputable def b21 (P : Params) : Obj := ⟨(.type "function"), none, (.func (mkFn (st 0) (S "_wall") .none .none .none (.str (S "__main__") 164) none (.ref 20) .none)), #[]⟩
noncomputable def b22 (P : Params) : Obj := ⟨(.type "tuple"), none, (.seq #[] 0), #[]⟩
noncomputable def b23 (P : Params) : Obj := ⟨(.type "builtin_function_or_method"), none, (.fields #[(.builtin "type.__prepare__"), (.type "type")]), #[]⟩
noncomputable def b24 (P : Params) : Obj := ⟨(.type "dict"), none, (.dict #[⟨H P (S "__module__"), (.str (S "__module__") 203), (.str (S "emacs.parsestate") 194)⟩, ⟨H P (S "__qualname__"), (.str (S "__qualname__") 205), (.str (S "ParseState") 204)⟩, ⟨H P (S "__firstlineno__"), (.str (S "__firstlineno__") 207), (.int (5) 206)⟩, ⟨H P (S "__init__"), (.str (S "__init__") 231), (.ref 37)⟩, ⟨H P (S "depth"), (.str (S "depth") 238), (.ref 44)⟩, ⟨H P (S "innermost"), (.str (S "innermost") 245), (.ref 51)⟩, ⟨H P (S "is_plain"), (.str (S "is_plain") 252), (.ref 58)⟩, ⟨H P (S "items"), (.str (S "items") 260), (.ref 65)⟩, ⟨H P (S "__static_attributes__"), (.str (S "__static_attributes__") 273), (.ref 66)⟩] 9), #[]⟩
noncomputable def b25 (P : Params) : Obj := ⟨(.type "tuple"), none, (.seq #[] 0), #[]⟩
noncomputable def b26 (P : Params) : Obj := ⟨.none, none, (.fields #[(.int (7) 0), (.int (4) 0), (.ref 36), (.int (21) 0), (.int (4) 0), (.ref 43), (.int (24) 0), (.int (4) 0), (.ref 50), (.int (27) 0), (.int (4) 0), (.ref 57), (.int (30) 0), (.int (4) 0), (.ref 64)]), #[]⟩
noncomputable def b27 (P : Params) : Obj := ⟨(.type "code"), none, (.fields #[(.str (S "ParseState") 198), (.str (S "ParseState") 199), (.str (S "/claim/cut.py") 200), (.int (5) 0), (.int (0) 0), (.int (0) 0), (.int (0) 0), (.int (0) 0), (.ref 25), (.bool false), (.int (181) 0), (.ref 26), .none, .none, .none, .none, (.int (201) 0), (.int (5) 0), (.str (S "/claim/cut.py") 202)]), #[]⟩
noncomputable def b28 (P : Params) : Obj := ⟨(.type "frame"), none, .plain, #[(some (.ref 27)), (some (.ref 3)), (some (.ref 24)), none, (some (.str (S "emacs.parsestate") 194)), none, (some (.ref 0))]⟩
noncomputable def b29 (P : Params) : Obj := ⟨(.type "tuple"), none, (.seq #[] 0), #[]⟩
noncomputable def b30 (P : Params) : Obj := ⟨(.type "tuple"), none, (.seq #[(.ref 29), (.int (0) 208), (.int (0) 209), .none, .none, .none, (.int (0) 210), (.str (S "") 211), (.bool false), .none, (.bool false), (.str (S "") 212)] 0), #[]⟩
noncomputable def b31 (P : Params) : Obj := ⟨(.type "tuple"), none, (.seq #[] 0), #[]⟩
noncomputable def b32 (P : Params) : Obj := ⟨.none, none, (.fields #[]), #[]⟩
noncomputable def b33 (P : Params) : Obj := ⟨(.type "tuple"), none, (.seq #[(.str (S "self") 216), (.str (S "opens") 217), (.str (S "below") 218), (.str (S "least") 219), (.str (S "whole") 220), (.str (S "word") 221), (.str (S "string") 222), (.str (S "comment") 223), (.str (S "style") 224), (.str (S "nests") 225), (.str (S "start") 226), (.str (S "quoted") 227), (.str (S "half") 228)] 0), #[]⟩
noncomputable def b34 (P : Params) : Obj := ⟨(.type "tuple"), none, (.seq #[] 0), #[]⟩
noncomputable def b35 (P : Params) : Obj := ⟨.none, none, (.func (mkFn0 (stIn 2 0) (S "ParseState.__init__") .none .none .none .none none .none .none)), #[]⟩
noncomputable def b36 (P : Params) : Obj := ⟨(.type "code"), none, (.fields #[(.str (S "__init__") 213), (.str (S "ParseState.__init__") 214), (.str (S "/claim/cut.py") 215), (.int (7) 0), (.int (13) 0), (.int (0) 0), (.int (0) 0), (.int (3) 0), (.ref 31), (.bool true), (.int (181) 0), (.ref 32), .none, (.ref 33), (.ref 34), (.ref 35), (.int (229) 0), (.int (7) 0), (.str (S "/claim/cut.py") 230)]), #[]⟩
noncomputable def b37 (P : Params) : Obj := ⟨(.type "function"), none, (.func (mkFn (stIn 2 0) (S "ParseState.__init__") (.ref 30) .none .none (.str (S "emacs.parsestate") 194) none (.ref 36) .none)), #[]⟩
noncomputable def b38 (P : Params) : Obj := ⟨(.type "tuple"), none, (.seq #[] 0), #[]⟩
noncomputable def b39 (P : Params) : Obj := ⟨.none, none, (.fields #[]), #[]⟩
noncomputable def b40 (P : Params) : Obj := ⟨(.type "tuple"), none, (.seq #[(.str (S "self") 235)] 0), #[]⟩
noncomputable def b41 (P : Params) : Obj := ⟨(.type "tuple"), none, (.seq #[] 0), #[]⟩
noncomputable def b42 (P : Params) : Obj := ⟨.none, none, (.func (mkFn0 (stIn 2 1) (S "ParseState.depth") .none .none .none .none none .none .none)), #[]⟩
noncomputable def b43 (P : Params) : Obj := ⟨(.type "code"), none, (.fields #[(.str (S "depth") 232), (.str (S "ParseState.depth") 233), (.str (S "/claim/cut.py") 234), (.int (21) 0), (.int (1) 0), (.int (0) 0), (.int (0) 0), (.int (3) 0), (.ref 38), (.bool true), (.int (181) 0), (.ref 39), .none, (.ref 40), (.ref 41), (.ref 42), (.int (236) 0), (.int (21) 0), (.str (S "/claim/cut.py") 237)]), #[]⟩
noncomputable def b44 (P : Params) : Obj := ⟨(.type "function"), none, (.func (mkFn (stIn 2 1) (S "ParseState.depth") .none .none .none (.str (S "emacs.parsestate") 194) none (.ref 43) .none)), #[]⟩
noncomputable def b45 (P : Params) : Obj := ⟨(.type "tuple"), none, (.seq #[] 0), #[]⟩
noncomputable def b46 (P : Params) : Obj := ⟨.none, none, (.fields #[]), #[]⟩
noncomputable def b47 (P : Params) : Obj := ⟨(.type "tuple"), none, (.seq #[(.str (S "self") 242)] 0), #[]⟩
noncomputable def b48 (P : Params) : Obj := ⟨(.type "tuple"), none, (.seq #[] 0), #[]⟩
noncomputable def b49 (P : Params) : Obj := ⟨.none, none, (.func (mkFn0 (stIn 2 2) (S "ParseState.innermost") .none .none .none .none none .none .none)), #[]⟩
noncomputable def b50 (P : Params) : Obj := ⟨(.type "code"), none, (.fields #[(.str (S "innermost") 239), (.str (S "ParseState.innermost") 240), (.str (S "/claim/cut.py") 241), (.int (24) 0), (.int (1) 0), (.int (0) 0), (.int (0) 0), (.int (3) 0), (.ref 45), (.bool true), (.int (181) 0), (.ref 46), .none, (.ref 47), (.ref 48), (.ref 49), (.int (243) 0), (.int (24) 0), (.str (S "/claim/cut.py") 244)]), #[]⟩
noncomputable def b51 (P : Params) : Obj := ⟨(.type "function"), none, (.func (mkFn (stIn 2 2) (S "ParseState.innermost") .none .none .none (.str (S "emacs.parsestate") 194) none (.ref 50) .none)), #[]⟩
noncomputable def b52 (P : Params) : Obj := ⟨(.type "tuple"), none, (.seq #[] 0), #[]⟩
noncomputable def b53 (P : Params) : Obj := ⟨.none, none, (.fields #[]), #[]⟩
noncomputable def b54 (P : Params) : Obj := ⟨(.type "tuple"), none, (.seq #[(.str (S "self") 249)] 0), #[]⟩
noncomputable def b55 (P : Params) : Obj := ⟨(.type "tuple"), none, (.seq #[] 0), #[]⟩
noncomputable def b56 (P : Params) : Obj := ⟨.none, none, (.func (mkFn0 (stIn 2 3) (S "ParseState.is_plain") .none .none .none .none none .none .none)), #[]⟩
noncomputable def b57 (P : Params) : Obj := ⟨(.type "code"), none, (.fields #[(.str (S "is_plain") 246), (.str (S "ParseState.is_plain") 247), (.str (S "/claim/cut.py") 248), (.int (27) 0), (.int (1) 0), (.int (0) 0), (.int (0) 0), (.int (3) 0), (.ref 52), (.bool true), (.int (181) 0), (.ref 53), .none, (.ref 54), (.ref 55), (.ref 56), (.int (250) 0), (.int (27) 0), (.str (S "/claim/cut.py") 251)]), #[]⟩
noncomputable def b58 (P : Params) : Obj := ⟨(.type "function"), none, (.func (mkFn (stIn 2 3) (S "ParseState.is_plain") .none .none .none (.str (S "emacs.parsestate") 194) none (.ref 57) .none)), #[]⟩
noncomputable def b59 (P : Params) : Obj := ⟨(.type "tuple"), none, (.seq #[] 0), #[]⟩
noncomputable def b60 (P : Params) : Obj := ⟨.none, none, (.fields #[]), #[]⟩
noncomputable def b61 (P : Params) : Obj := ⟨(.type "tuple"), none, (.seq #[(.str (S "self") 256), (.str (S "inner") 257)] 0), #[]⟩
noncomputable def b62 (P : Params) : Obj := ⟨(.type "tuple"), none, (.seq #[] 0), #[]⟩
noncomputable def b63 (P : Params) : Obj := ⟨.none, none, (.func (mkFn0 (stIn 2 4) (S "ParseState.items") .none .none .none .none none .none .none)), #[]⟩
noncomputable def b64 (P : Params) : Obj := ⟨(.type "code"), none, (.fields #[(.str (S "items") 253), (.str (S "ParseState.items") 254), (.str (S "/claim/cut.py") 255), (.int (30) 0), (.int (1) 0), (.int (0) 0), (.int (0) 0), (.int (3) 0), (.ref 59), (.bool true), (.int (181) 0), (.ref 60), .none, (.ref 61), (.ref 62), (.ref 63), (.int (258) 0), (.int (30) 0), (.str (S "/claim/cut.py") 259)]), #[]⟩
noncomputable def b65 (P : Params) : Obj := ⟨(.type "function"), none, (.func (mkFn (stIn 2 4) (S "ParseState.items") .none .none .none (.str (S "emacs.parsestate") 194) none (.ref 64) .none)), #[]⟩
noncomputable def b66 (P : Params) : Obj := ⟨(.type "tuple"), none, (.seq #[(.str (S "below") 261), (.str (S "comment") 262), (.str (S "half") 263), (.str (S "least") 264), (.str (S "nests") 265), (.str (S "opens") 266), (.str (S "quoted") 267), (.str (S "start") 268), (.str (S "string") 269), (.str (S "style") 270), (.str (S "whole") 271), (.str (S "word") 272)] 0), #[]⟩
noncomputable def b67 (P : Params) : Obj := ⟨(.type "dict"), none, (.dict #[⟨H P (S "__module__"), (.str (S "__module__") 203), (.str (S "emacs.parsestate") 194)⟩, ⟨H P (S "__firstlineno__"), (.str (S "__firstlineno__") 207), (.int (5) 206)⟩, ⟨H P (S "__init__"), (.str (S "__init__") 231), (.ref 37)⟩, ⟨H P (S "depth"), (.str (S "depth") 238), (.ref 44)⟩, ⟨H P (S "innermost"), (.str (S "innermost") 245), (.ref 51)⟩, ⟨H P (S "is_plain"), (.str (S "is_plain") 252), (.ref 58)⟩, ⟨H P (S "items"), (.str (S "items") 260), (.ref 65)⟩, ⟨H P (S "__static_attributes__"), (.str (S "__static_attributes__") 273), (.ref 66)⟩, ⟨H P (S "__dict__"), (.str (S "__dict__") 275), (.ref 69)⟩, ⟨H P (S "__weakref__"), (.str (S "__weakref__") 277), (.ref 70)⟩, ⟨H P (S "__doc__"), (.str (S "__doc__") 278), .none⟩] 4), #[]⟩
noncomputable def b68 (P : Params) : Obj := ⟨(.type "type"), none, (.cls { name := (S "ParseState"), bases := [(.type "object")], mro := [(.ref 68), (.type "object")], ns := 67, qualname := (S "ParseState"), hasDict := true, slotNames := [], subclasses := [], abstract := false, collection := none, hasDel := false }), #[none, none, (some (.str (S "ParseState") 196)), (some (.str (S "ParseState") 204)), (some (.builtin "object.__new__")), (some (.bool true))]⟩
noncomputable def b69 (P : Params) : Obj := ⟨(.type "getset_descriptor"), none, (.fields #[(.str (S "__dict__") 274), (.ref 68), (.builtin "function.__dict__"), (.builtin "function.__dict__#set")]), #[]⟩
noncomputable def b70 (P : Params) : Obj := ⟨(.type "getset_descriptor"), none, (.fields #[(.str (S "__weakref__") 276), (.ref 68), (.builtin "ExceptionGroup.__weakref__"), .none]), #[]⟩
noncomputable def b71 (P : Params) : Obj := ⟨(.type "super"), none, (.fields #[(.ref 68), (.ref 68), (.ref 68)]), #[]⟩
noncomputable def b72 (P : Params) : Obj := ⟨(.type "builtin_function_or_method"), none, (.fields #[(.builtin "object.__init_subclass__"), (.ref 68)]), #[]⟩
noncomputable def b73 (P : Params) : Obj := ⟨(.type "tuple"), none, (.seq #[] 0), #[]⟩
noncomputable def b74 (P : Params) : Obj := ⟨.none, none, (.fields #[]), #[]⟩
noncomputable def b75 (P : Params) : Obj := ⟨(.type "tuple"), none, (.seq #[(.str (S "items") 284), (.str (S "opens") 285), (.str (S "below") 286), (.str (S "least") 287), (.str (S "whole") 288), (.str (S "word") 289), (.str (S "string") 290), (.str (S "comment") 291), (.str (S "style") 292), (.str (S "nests") 293), (.str (S "start") 294), (.str (S "quoted") 295), (.str (S "half") 296)] 0), #[]⟩
noncomputable def b76 (P : Params) : Obj := ⟨(.type "tuple"), none, (.seq #[] 0), #[]⟩
noncomputable def b77 (P : Params) : Obj := ⟨.none, none, (.func (mkFn0 (st 3) (S "state_of") .none .none .none .none none .none .none)), #[]⟩
noncomputable def b78 (P : Params) : Obj := ⟨(.type "code"), none, (.fields #[(.str (S "state_of") 281), (.str (S "state_of") 282), (.str (S "/claim/cut.py") 283), (.int (33) 0), (.int (1) 0), (.int (0) 0), (.int (0) 0), (.int (3) 0), (.ref 73), (.bool true), (.int (181) 0), (.ref 74), .none, (.ref 75), (.ref 76), (.ref 77), (.int (297) 0), (.int (33) 0), (.str (S "/claim/cut.py") 298)]), #[]⟩
noncomputable def b79 (P : Params) : Obj := ⟨(.type "function"), none, (.func (mkFn (st 3) (S "state_of") .none .none .none (.str (S "emacs.parsestate") 194) none (.ref 78) .none)), #[]⟩
noncomputable def b80 (P : Params) : Obj := ⟨(.type "tuple"), none, (.seq #[(.type "Exception")] 0), #[]⟩
noncomputable def b81 (P : Params) : Obj := ⟨(.type "builtin_function_or_method"), none, (.fields #[(.builtin "type.__prepare__"), (.type "type")]), #[]⟩
noncomputable def b82 (P : Params) : Obj := ⟨(.type "dict"), none, (.dict #[⟨H P (S "__module__"), (.str (S "__module__") 309), (.str (S "emacs.errors") 300)⟩, ⟨H P (S "__qualname__"), (.str (S "__qualname__") 311), (.str (S "LispSignal") 310)⟩, ⟨H P (S "__firstlineno__"), (.str (S "__firstlineno__") 313), (.int (37) 312)⟩, ⟨H P (S "__init__"), (.str (S "__init__") 322), (.ref 93)⟩, ⟨H P (S "__static_attributes__"), (.str (S "__static_attributes__") 325), (.ref 94)⟩] 5), #[]⟩
noncomputable def b83 (P : Params) : Obj := ⟨(.type "tuple"), none, (.seq #[] 0), #[]⟩
noncomputable def b84 (P : Params) : Obj := ⟨.none, none, (.fields #[(.int (39) 0), (.int (4) 0), (.ref 92)]), #[]⟩
noncomputable def b85 (P : Params) : Obj := ⟨(.type "code"), none, (.fields #[(.str (S "LispSignal") 304), (.str (S "LispSignal") 305), (.str (S "/claim/cut.py") 306), (.int (37) 0), (.int (0) 0), (.int (0) 0), (.int (0) 0), (.int (0) 0), (.ref 83), (.bool false), (.int (181) 0), (.ref 84), .none, .none, .none, .none, (.int (307) 0), (.int (37) 0), (.str (S "/claim/cut.py") 308)]), #[]⟩
noncomputable def b86 (P : Params) : Obj := ⟨(.type "frame"), none, .plain, #[(some (.ref 85)), (some (.ref 3)), (some (.ref 82)), none, (some (.str (S "emacs.errors") 300)), none, (some (.ref 0))]⟩
noncomputable def b87 (P : Params) : Obj := ⟨(.type "tuple"), none, (.seq #[] 0), #[]⟩
noncomputable def b88 (P : Params) : Obj := ⟨.none, none, (.fields #[]), #[]⟩
noncomputable def b89 (P : Params) : Obj := ⟨(.type "tuple"), none, (.seq #[(.str (S "self") 317), (.str (S "symbol") 318), (.str (S "data") 319)] 0), #[]⟩
noncomputable def b90 (P : Params) : Obj := ⟨(.type "tuple"), none, (.seq #[] 0), #[]⟩
noncomputable def b91 (P : Params) : Obj := ⟨.none, none, (.func (mkFn0 (stIn 5 0) (S "LispSignal.__init__") .none .none .none .none none .none .none)), #[]⟩
noncomputable def b92 (P : Params) : Obj := ⟨(.type "code"), none, (.fields #[(.str (S "__init__") 314), (.str (S "LispSignal.__init__") 315), (.str (S "/claim/cut.py") 316), (.int (39) 0), (.int (3) 0), (.int (0) 0), (.int (0) 0), (.int (3) 0), (.ref 87), (.bool true), (.int (181) 0), (.ref 88), .none, (.ref 89), (.ref 90), (.ref 91), (.int (320) 0), (.int (39) 0), (.str (S "/claim/cut.py") 321)]), #[]⟩
noncomputable def b93 (P : Params) : Obj := ⟨(.type "function"), none, (.func (mkFn (stIn 5 0) (S "LispSignal.__init__") .none .none .none (.str (S "emacs.errors") 300) none (.ref 92) .none)), #[]⟩
noncomputable def b94 (P : Params) : Obj := ⟨(.type "tuple"), none, (.seq #[(.str (S "data") 323), (.str (S "symbol") 324)] 0), #[]⟩
noncomputable def b95 (P : Params) : Obj := ⟨(.type "dict"), none, (.dict #[⟨H P (S "__module__"), (.str (S "__module__") 309), (.str (S "emacs.errors") 300)⟩, ⟨H P (S "__firstlineno__"), (.str (S "__firstlineno__") 313), (.int (37) 312)⟩, ⟨H P (S "__init__"), (.str (S "__init__") 322), (.ref 93)⟩, ⟨H P (S "__static_attributes__"), (.str (S "__static_attributes__") 325), (.ref 94)⟩, ⟨H P (S "__weakref__"), (.str (S "__weakref__") 327), (.ref 97)⟩, ⟨H P (S "__doc__"), (.str (S "__doc__") 328), .none⟩] 3), #[]⟩
noncomputable def b96 (P : Params) : Obj := ⟨(.type "type"), none, (.cls { name := (S "LispSignal"), bases := [(.type "Exception")], mro := [(.ref 96), (.type "Exception"), (.type "BaseException"), (.type "object")], ns := 95, qualname := (S "LispSignal"), hasDict := true, slotNames := [], subclasses := [], abstract := false, collection := none, hasDel := false }), #[(some (.ref 80)), none, (some (.str (S "LispSignal") 302)), (some (.str (S "LispSignal") 310)), (some (.builtin "Exception.__new__")), (some (.bool true))]⟩
noncomputable def b97 (P : Params) : Obj := ⟨(.type "getset_descriptor"), none, (.fields #[(.str (S "__weakref__") 326), (.ref 96), (.builtin "ExceptionGroup.__weakref__"), .none]), #[]⟩
noncomputable def b98 (P : Params) : Obj := ⟨(.type "super"), none, (.fields #[(.ref 96), (.ref 96), (.ref 96)]), #[]⟩
noncomputable def b99 (P : Params) : Obj := ⟨(.type "builtin_function_or_method"), none, (.fields #[(.builtin "object.__init_subclass__"), (.ref 96)]), #[]⟩
noncomputable def b100 (P : Params) : Obj := ⟨(.type "tuple"), none, (.seq #[] 0), #[]⟩
noncomputable def b101 (P : Params) : Obj := ⟨(.type "builtin_function_or_method"), none, (.fields #[(.builtin "type.__prepare__"), (.type "type")]), #[]⟩
noncomputable def b102 (P : Params) : Obj := ⟨(.type "dict"), none, (.dict #[⟨H P (S "__module__"), (.str (S "__module__") 378), (.str (S "emacs.syntax") 333)⟩, ⟨H P (S "__qualname__"), (.str (S "__qualname__") 380), (.str (S "Syntax") 379)⟩, ⟨H P (S "__firstlineno__"), (.str (S "__firstlineno__") 382), (.int (61) 381)⟩, ⟨H P (S "__init__"), (.str (S "__init__") 392), (.ref 113)⟩, ⟨H P (S "has"), (.str (S "has") 400), (.ref 120)⟩, ⟨H P (S "is_escape"), (.str (S "is_escape") 407), (.ref 127)⟩, ⟨H P (S "is_word_part"), (.str (S "is_word_part") 414), (.ref 134)⟩, ⟨H P (S "style"), (.str (S "style") 421), (.ref 141)⟩, ⟨H P (S "__static_attributes__"), (.str (S "__static_attributes__") 425), (.ref 142)⟩] 9), #[]⟩
noncomputable def b103 (P : Params) : Obj := ⟨(.type "tuple"), none, (.seq #[] 0), #[]⟩
noncomputable def b104 (P : Params) : Obj := ⟨.none, none, (.fields #[(.int (63) 0), (.int (4) 0), (.ref 112), (.int (68) 0), (.int (4) 0), (.ref 119), (.int (71) 0), (.int (4) 0), (.ref 126), (.int (74) 0), (.int (4) 0), (.ref 133), (.int (77) 0), (.int (4) 0), (.ref 140)]), #[]⟩
noncomputable def b105 (P : Params) : Obj := ⟨(.type "code"), none, (.fields #[(.str (S "Syntax") 373), (.str (S "Syntax") 374), (.str (S "/claim/cut.py") 375), (.int (61) 0), (.int (0) 0), (.int (0) 0), (.int (0) 0), (.int (0) 0), (.ref 103), (.bool false), (.int (181) 0), (.ref 104), .none, .none, .none, .none, (.int (376) 0), (.int (61) 0), (.str (S "/claim/cut.py") 377)]), #[]⟩
noncomputable def b106 (P : Params) : Obj := ⟨(.type "frame"), none, .plain, #[(some (.ref 105)), (some (.ref 3)), (some (.ref 102)), none, (some (.str (S "emacs.syntax") 333)), none, (some (.ref 0))]⟩
noncomputable def b107 (P : Params) : Obj := ⟨(.type "tuple"), none, (.seq #[] 0), #[]⟩
noncomputable def b108 (P : Params) : Obj := ⟨.none, none, (.fields #[]), #[]⟩
noncomputable def b109 (P : Params) : Obj := ⟨(.type "tuple"), none, (.seq #[(.str (S "self") 386), (.str (S "kind") 387), (.str (S "match") 388), (.str (S "flags") 389)] 0), #[]⟩
noncomputable def b110 (P : Params) : Obj := ⟨(.type "tuple"), none, (.seq #[] 0), #[]⟩
noncomputable def b111 (P : Params) : Obj := ⟨.none, none, (.func (mkFn0 (stIn 25 0) (S "Syntax.__init__") .none .none .none .none none .none .none)), #[]⟩
noncomputable def b112 (P : Params) : Obj := ⟨(.type "code"), none, (.fields #[(.str (S "__init__") 383), (.str (S "Syntax.__init__") 384), (.str (S "/claim/cut.py") 385), (.int (63) 0), (.int (4) 0), (.int (0) 0), (.int (0) 0), (.int (3) 0), (.ref 107), (.bool true), (.int (181) 0), (.ref 108), .none, (.ref 109), (.ref 110), (.ref 111), (.int (390) 0), (.int (63) 0), (.str (S "/claim/cut.py") 391)]), #[]⟩
noncomputable def b113 (P : Params) : Obj := ⟨(.type "function"), none, (.func (mkFn (stIn 25 0) (S "Syntax.__init__") .none .none .none (.str (S "emacs.syntax") 333) none (.ref 112) .none)), #[]⟩
noncomputable def b114 (P : Params) : Obj := ⟨(.type "tuple"), none, (.seq #[] 0), #[]⟩
noncomputable def b115 (P : Params) : Obj := ⟨.none, none, (.fields #[]), #[]⟩
noncomputable def b116 (P : Params) : Obj := ⟨(.type "tuple"), none, (.seq #[(.str (S "self") 396), (.str (S "flag") 397)] 0), #[]⟩
noncomputable def b117 (P : Params) : Obj := ⟨(.type "tuple"), none, (.seq #[] 0), #[]⟩
noncomputable def b118 (P : Params) : Obj := ⟨.none, none, (.func (mkFn0 (stIn 25 1) (S "Syntax.has") .none .none .none .none none .none .none)), #[]⟩
noncomputable def b119 (P : Params) : Obj := ⟨(.type "code"), none, (.fields #[(.str (S "has") 393), (.str (S "Syntax.has") 394), (.str (S "/claim/cut.py") 395), (.int (68) 0), (.int (2) 0), (.int (0) 0), (.int (0) 0), (.int (3) 0), (.ref 114), (.bool true), (.int (181) 0), (.ref 115), .none, (.ref 116), (.ref 117), (.ref 118), (.int (398) 0), (.int (68) 0), (.str (S "/claim/cut.py") 399)]), #[]⟩
noncomputable def b120 (P : Params) : Obj := ⟨(.type "function"), none, (.func (mkFn (stIn 25 1) (S "Syntax.has") .none .none .none (.str (S "emacs.syntax") 333) none (.ref 119) .none)), #[]⟩
noncomputable def b121 (P : Params) : Obj := ⟨(.type "tuple"), none, (.seq #[] 0), #[]⟩
noncomputable def b122 (P : Params) : Obj := ⟨.none, none, (.fields #[]), #[]⟩
noncomputable def b123 (P : Params) : Obj := ⟨(.type "tuple"), none, (.seq #[(.str (S "self") 404)] 0), #[]⟩
noncomputable def b124 (P : Params) : Obj := ⟨(.type "tuple"), none, (.seq #[] 0), #[]⟩
noncomputable def b125 (P : Params) : Obj := ⟨.none, none, (.func (mkFn0 (stIn 25 2) (S "Syntax.is_escape") .none .none .none .none none .none .none)), #[]⟩
noncomputable def b126 (P : Params) : Obj := ⟨(.type "code"), none, (.fields #[(.str (S "is_escape") 401), (.str (S "Syntax.is_escape") 402), (.str (S "/claim/cut.py") 403), (.int (71) 0), (.int (1) 0), (.int (0) 0), (.int (0) 0), (.int (3) 0), (.ref 121), (.bool true), (.int (181) 0), (.ref 122), .none, (.ref 123), (.ref 124), (.ref 125), (.int (405) 0), (.int (71) 0), (.str (S "/claim/cut.py") 406)]), #[]⟩
noncomputable def b127 (P : Params) : Obj := ⟨(.type "function"), none, (.func (mkFn (stIn 25 2) (S "Syntax.is_escape") .none .none .none (.str (S "emacs.syntax") 333) none (.ref 126) .none)), #[]⟩
noncomputable def b128 (P : Params) : Obj := ⟨(.type "tuple"), none, (.seq #[] 0), #[]⟩
noncomputable def b129 (P : Params) : Obj := ⟨.none, none, (.fields #[]), #[]⟩
noncomputable def b130 (P : Params) : Obj := ⟨(.type "tuple"), none, (.seq #[(.str (S "self") 411)] 0), #[]⟩
noncomputable def b131 (P : Params) : Obj := ⟨(.type "tuple"), none, (.seq #[] 0), #[]⟩
noncomputable def b132 (P : Params) : Obj := ⟨.none, none, (.func (mkFn0 (stIn 25 3) (S "Syntax.is_word_part") .none .none .none .none none .none .none)), #[]⟩
noncomputable def b133 (P : Params) : Obj := ⟨(.type "code"), none, (.fields #[(.str (S "is_word_part") 408), (.str (S "Syntax.is_word_part") 409), (.str (S "/claim/cut.py") 410), (.int (74) 0), (.int (1) 0), (.int (0) 0), (.int (0) 0), (.int (3) 0), (.ref 128), (.bool true), (.int (181) 0), (.ref 129), .none, (.ref 130), (.ref 131), (.ref 132), (.int (412) 0), (.int (74) 0), (.str (S "/claim/cut.py") 413)]), #[]⟩
noncomputable def b134 (P : Params) : Obj := ⟨(.type "function"), none, (.func (mkFn (stIn 25 3) (S "Syntax.is_word_part") .none .none .none (.str (S "emacs.syntax") 333) none (.ref 133) .none)), #[]⟩
noncomputable def b135 (P : Params) : Obj := ⟨(.type "tuple"), none, (.seq #[] 0), #[]⟩
noncomputable def b136 (P : Params) : Obj := ⟨.none, none, (.fields #[]), #[]⟩
noncomputable def b137 (P : Params) : Obj := ⟨(.type "tuple"), none, (.seq #[(.str (S "self") 418)] 0), #[]⟩
noncomputable def b138 (P : Params) : Obj := ⟨(.type "tuple"), none, (.seq #[] 0), #[]⟩
noncomputable def b139 (P : Params) : Obj := ⟨.none, none, (.func (mkFn0 (stIn 25 4) (S "Syntax.style") .none .none .none .none none .none .none)), #[]⟩
noncomputable def b140 (P : Params) : Obj := ⟨(.type "code"), none, (.fields #[(.str (S "style") 415), (.str (S "Syntax.style") 416), (.str (S "/claim/cut.py") 417), (.int (77) 0), (.int (1) 0), (.int (0) 0), (.int (0) 0), (.int (3) 0), (.ref 135), (.bool true), (.int (181) 0), (.ref 136), .none, (.ref 137), (.ref 138), (.ref 139), (.int (419) 0), (.int (77) 0), (.str (S "/claim/cut.py") 420)]), #[]⟩
noncomputable def b141 (P : Params) : Obj := ⟨(.type "function"), none, (.func (mkFn (stIn 25 4) (S "Syntax.style") .none .none .none (.str (S "emacs.syntax") 333) none (.ref 140) .none)), #[]⟩
noncomputable def b142 (P : Params) : Obj := ⟨(.type "tuple"), none, (.seq #[(.str (S "flags") 422), (.str (S "kind") 423), (.str (S "match") 424)] 0), #[]⟩
noncomputable def b143 (P : Params) : Obj := ⟨(.type "dict"), none, (.dict #[⟨H P (S "__module__"), (.str (S "__module__") 378), (.str (S "emacs.syntax") 333)⟩, ⟨H P (S "__firstlineno__"), (.str (S "__firstlineno__") 382), (.int (61) 381)⟩, ⟨H P (S "__init__"), (.str (S "__init__") 392), (.ref 113)⟩, ⟨H P (S "has"), (.str (S "has") 400), (.ref 120)⟩, ⟨H P (S "is_escape"), (.str (S "is_escape") 407), (.ref 127)⟩, ⟨H P (S "is_word_part"), (.str (S "is_word_part") 414), (.ref 134)⟩, ⟨H P (S "style"), (.str (S "style") 421), (.ref 141)⟩, ⟨H P (S "__static_attributes__"), (.str (S "__static_attributes__") 425), (.ref 142)⟩, ⟨H P (S "__dict__"), (.str (S "__dict__") 427), (.ref 145)⟩, ⟨H P (S "__weakref__"), (.str (S "__weakref__") 429), (.ref 146)⟩, ⟨H P (S "__doc__"), (.str (S "__doc__") 430), .none⟩] 4), #[]⟩
noncomputable def b144 (P : Params) : Obj := ⟨(.type "type"), none, (.cls { name := (S "Syntax"), bases := [(.type "object")], mro := [(.ref 144), (.type "object")], ns := 143, qualname := (S "Syntax"), hasDict := true, slotNames := [], subclasses := [], abstract := false, collection := none, hasDel := false }), #[none, none, (some (.str (S "Syntax") 371)), (some (.str (S "Syntax") 379)), (some (.builtin "object.__new__")), (some (.bool true))]⟩
noncomputable def b145 (P : Params) : Obj := ⟨(.type "getset_descriptor"), none, (.fields #[(.str (S "__dict__") 426), (.ref 144), (.builtin "function.__dict__"), (.builtin "function.__dict__#set")]), #[]⟩
noncomputable def b146 (P : Params) : Obj := ⟨(.type "getset_descriptor"), none, (.fields #[(.str (S "__weakref__") 428), (.ref 144), (.builtin "ExceptionGroup.__weakref__"), .none]), #[]⟩
noncomputable def b147 (P : Params) : Obj := ⟨(.type "super"), none, (.fields #[(.ref 144), (.ref 144), (.ref 144)]), #[]⟩
noncomputable def b148 (P : Params) : Obj := ⟨(.type "builtin_function_or_method"), none, (.fields #[(.builtin "object.__init_subclass__"), (.ref 144)]), #[]⟩
noncomputable def b149 (P : Params) : Obj := ⟨(.type "tuple"), none, (.seq #[] 0), #[]⟩
noncomputable def b150 (P : Params) : Obj := ⟨.none, none, (.fields #[]), #[]⟩
noncomputable def b151 (P : Params) : Obj := ⟨.none, none, (.func (mkFn0 (st 26) (S "sorted_flags") .none .none .none .none none .none .none)), #[]⟩
noncomputable def b152 (P : Params) : Obj := ⟨(.type "code"), none, (.fields #[(.str (S "sorted_flags") 433), (.str (S "sorted_flags") 434), (.str (S "/claim/cut.py") 435), (.int (79) 0), (.int (1) 0), (.int (0) 0), (.int (0) 0), (.int (3) 0), (.ref 149), (.bool true), (.int (181) 0), (.ref 150), .none, .none, .none, (.ref 151), (.int (436) 0), (.int (79) 0), (.str (S "/claim/cut.py") 437)]), #[]⟩
noncomputable def b153 (P : Params) : Obj := ⟨(.type "function"), none, (.func (mkFn (st 26) (S "sorted_flags") .none .none .none (.str (S "emacs.syntax") 333) none (.ref 152) .none)), #[]⟩
noncomputable def b154 (P : Params) : Obj := ⟨(.type "tuple"), none, (.seq #[] 0), #[]⟩
noncomputable def b155 (P : Params) : Obj := ⟨.none, none, (.fields #[]), #[]⟩
noncomputable def b156 (P : Params) : Obj := ⟨.none, none, (.func (mkFn0 (st 27) (S "read_syntax") .none .none .none .none none .none .none)), #[]⟩
noncomputable def b157 (P : Params) : Obj := ⟨(.type "code"), none, (.fields #[(.str (S "read_syntax") 439), (.str (S "read_syntax") 440), (.str (S "/claim/cut.py") 441), (.int (81) 0), (.int (1) 0), (.int (0) 0), (.int (0) 0), (.int (3) 0), (.ref 154), (.bool true), (.int (181) 0), (.ref 155), .none, .none, .none, (.ref 156), (.int (442) 0), (.int (81) 0), (.str (S "/claim/cut.py") 443)]), #[]⟩
noncomputable def b158 (P : Params) : Obj := ⟨(.type "function"), none, (.func (mkFn (st 27) (S "read_syntax") .none .none .none (.str (S "emacs.syntax") 333) none (.ref 157) .none)), #[]⟩
noncomputable def b159 (P : Params) : Obj := ⟨(.type "tuple"), none, (.seq #[] 0), #[]⟩
noncomputable def b160 (P : Params) : Obj := ⟨(.type "builtin_function_or_method"), none, (.fields #[(.builtin "type.__prepare__"), (.type "type")]), #[]⟩
noncomputable def b161 (P : Params) : Obj := ⟨(.type "dict"), none, (.dict #[⟨H P (S "__module__"), (.str (S "__module__") 452), (.str (S "emacs.syntax") 333)⟩, ⟨H P (S "__qualname__"), (.str (S "__qualname__") 454), (.str (S "SyntaxTable") 453)⟩, ⟨H P (S "__firstlineno__"), (.str (S "__firstlineno__") 456), (.int (90) 455)⟩, ⟨H P (S "__init__"), (.str (S "__init__") 464), (.ref 173)⟩, ⟨H P (S "modify"), (.str (S "modify") 473), (.ref 180)⟩, ⟨H P (S "modify_all"), (.str (S "modify_all") 484), (.ref 187)⟩, ⟨H P (S "modify_range"), (.str (S "modify_range") 494), (.ref 194)⟩, ⟨H P (S "own"), (.str (S "own") 503), (.ref 201)⟩, ⟨H P (S "at"), (.str (S "at") 513), (.ref 208)⟩, ⟨H P (S "kind_of"), (.str (S "kind_of") 521), (.ref 215)⟩, ⟨H P (S "copy"), (.str (S "copy") 528), (.ref 222)⟩, ⟨H P (S "__static_attributes__"), (.str (S "__static_attributes__") 531), (.ref 223)⟩] 12), #[]⟩
noncomputable def b162 (P : Params) : Obj := ⟨(.type "tuple"), none, (.seq #[] 0), #[]⟩
noncomputable def b163 (P : Params) : Obj := ⟨.none, none, (.fields #[(.int (92) 0), (.int (4) 0), (.ref 172), (.int (96) 0), (.int (4) 0), (.ref 179), (.int (99) 0), (.int (4) 0), (.ref 186), (.int (104) 0), (.int (4) 0), (.ref 193), (.int (107) 0), (.int (4) 0), (.ref 200), (.int (111) 0), (.int (4) 0), (.ref 207), (.int (120) 0), (.int (4) 0), (.ref 214), (.int (123) 0), (.int (4) 0), (.ref 221)]), #[]⟩
noncomputable def b164 (P : Params) : Obj := ⟨(.type "code"), none, (.fields #[(.str (S "SyntaxTable") 447), (.str (S "SyntaxTable") 448), (.str (S "/claim/cut.py") 449), (.int (90) 0), (.int (0) 0), (.int (0) 0), (.int (0) 0), (.int (0) 0), (.ref 162), (.bool false), (.int (181) 0), (.ref 163), .none, .none, .none, .none, (.int (450) 0), (.int (90) 0), (.str (S "/claim/cut.py") 451)]), #[]⟩
noncomputable def b165 (P : Params) : Obj := ⟨(.type "frame"), none, .plain, #[(some (.ref 164)), (some (.ref 3)), (some (.ref 161)), none, (some (.str (S "emacs.syntax") 333)), none, (some (.ref 0))]⟩
noncomputable def b166 (P : Params) : Obj := ⟨(.type "tuple"), none, (.seq #[.none] 0), #[]⟩
noncomputable def b167 (P : Params) : Obj := ⟨(.type "tuple"), none, (.seq #[] 0), #[]⟩
noncomputable def b168 (P : Params) : Obj := ⟨.none, none, (.fields #[]), #[]⟩
noncomputable def b169 (P : Params) : Obj := ⟨(.type "tuple"), none, (.seq #[(.str (S "self") 460), (.str (S "parent") 461)] 0), #[]⟩
noncomputable def b170 (P : Params) : Obj := ⟨(.type "tuple"), none, (.seq #[] 0), #[]⟩
noncomputable def b171 (P : Params) : Obj := ⟨.none, none, (.func (mkFn0 (stIn 28 0) (S "SyntaxTable.__init__") .none .none .none .none none .none .none)), #[]⟩
noncomputable def b172 (P : Params) : Obj := ⟨(.type "code"), none, (.fields #[(.str (S "__init__") 457), (.str (S "SyntaxTable.__init__") 458), (.str (S "/claim/cut.py") 459), (.int (92) 0), (.int (2) 0), (.int (0) 0), (.int (0) 0), (.int (3) 0), (.ref 167), (.bool true), (.int (181) 0), (.ref 168), .none, (.ref 169), (.ref 170), (.ref 171), (.int (462) 0), (.int (92) 0), (.str (S "/claim/cut.py") 463)]), #[]⟩
noncomputable def b173 (P : Params) : Obj := ⟨(.type "function"), none, (.func (mkFn (stIn 28 0) (S "SyntaxTable.__init__") (.ref 166) .none .none (.str (S "emacs.syntax") 333) none (.ref 172) .none)), #[]⟩
noncomputable def b174 (P : Params) : Obj := ⟨(.type "tuple"), none, (.seq #[] 0), #[]⟩
noncomputable def b175 (P : Params) : Obj := ⟨.none, none, (.fields #[]), #[]⟩
noncomputable def b176 (P : Params) : Obj := ⟨(.type "tuple"), none, (.seq #[(.str (S "self") 468), (.str (S "code") 469), (.str (S "syntax") 470)] 0), #[]⟩
noncomputable def b177 (P : Params) : Obj := ⟨(.type "tuple"), none, (.seq #[] 0), #[]⟩
noncomputable def b178 (P : Params) : Obj := ⟨.none, none, (.func (mkFn0 (stIn 28 1) (S "SyntaxTable.modify") .none .none .none .none none .none .none)), #[]⟩
noncomputable def b179 (P : Params) : Obj := ⟨(.type "code"), none, (.fields #[(.str (S "modify") 465), (.str (S "SyntaxTable.modify") 466), (.str (S "/claim/cut.py") 467), (.int (96) 0), (.int (3) 0), (.int (0) 0), (.int (0) 0), (.int (3) 0), (.ref 174), (.bool true), (.int (181) 0), (.ref 175), .none, (.ref 176), (.ref 177), (.ref 178), (.int (471) 0), (.int (96) 0), (.str (S "/claim/cut.py") 472)]), #[]⟩
noncomputable def b180 (P : Params) : Obj := ⟨(.type "function"), none, (.func (mkFn (stIn 28 1) (S "SyntaxTable.modify") .none .none .none (.str (S "emacs.syntax") 333) none (.ref 179) .none)), #[]⟩
noncomputable def b181 (P : Params) : Obj := ⟨(.type "tuple"), none, (.seq #[] 0), #[]⟩
noncomputable def b182 (P : Params) : Obj := ⟨.none, none, (.fields #[]), #[]⟩
noncomputable def b183 (P : Params) : Obj := ⟨(.type "tuple"), none, (.seq #[(.str (S "self") 477), (.str (S "text") 478), (.str (S "description") 479), (.str (S "syntax") 480), (.str (S "sign") 481)] 0), #[]⟩
noncomputable def b184 (P : Params) : Obj := ⟨(.type "tuple"), none, (.seq #[] 0), #[]⟩
noncomputable def b185 (P : Params) : Obj := ⟨.none, none, (.func (mkFn0 (stIn 28 2) (S "SyntaxTable.modify_all") .none .none .none .none none .none .none)), #[]⟩
noncomputable def b186 (P : Params) : Obj := ⟨(.type "code"), none, (.fields #[(.str (S "modify_all") 474), (.str (S "SyntaxTable.modify_all") 475), (.str (S "/claim/cut.py") 476), (.int (99) 0), (.int (3) 0), (.int (0) 0), (.int (0) 0), (.int (3) 0), (.ref 181), (.bool true), (.int (181) 0), (.ref 182), .none, (.ref 183), (.ref 184), (.ref 185), (.int (482) 0), (.int (99) 0), (.str (S "/claim/cut.py") 483)]), #[]⟩
noncomputable def b187 (P : Params) : Obj := ⟨(.type "function"), none, (.func (mkFn (stIn 28 2) (S "SyntaxTable.modify_all") .none .none .none (.str (S "emacs.syntax") 333) none (.ref 186) .none)), #[]⟩
noncomputable def b188 (P : Params) : Obj := ⟨(.type "tuple"), none, (.seq #[] 0), #[]⟩
noncomputable def b189 (P : Params) : Obj := ⟨.none, none, (.fields #[]), #[]⟩
noncomputable def b190 (P : Params) : Obj := ⟨(.type "tuple"), none, (.seq #[(.str (S "self") 488), (.str (S "first") 489), (.str (S "last") 490), (.str (S "syntax") 491)] 0), #[]⟩
noncomputable def b191 (P : Params) : Obj := ⟨(.type "tuple"), none, (.seq #[] 0), #[]⟩
noncomputable def b192 (P : Params) : Obj := ⟨.none, none, (.func (mkFn0 (stIn 28 3) (S "SyntaxTable.modify_range") .none .none .none .none none .none .none)), #[]⟩
noncomputable def b193 (P : Params) : Obj := ⟨(.type "code"), none, (.fields #[(.str (S "modify_range") 485), (.str (S "SyntaxTable.modify_range") 486), (.str (S "/claim/cut.py") 487), (.int (104) 0), (.int (4) 0), (.int (0) 0), (.int (0) 0), (.int (3) 0), (.ref 188), (.bool true), (.int (181) 0), (.ref 189), .none, (.ref 190), (.ref 191), (.ref 192), (.int (492) 0), (.int (104) 0), (.str (S "/claim/cut.py") 493)]), #[]⟩
noncomputable def b194 (P : Params) : Obj := ⟨(.type "function"), none, (.func (mkFn (stIn 28 3) (S "SyntaxTable.modify_range") .none .none .none (.str (S "emacs.syntax") 333) none (.ref 193) .none)), #[]⟩
noncomputable def b195 (P : Params) : Obj := ⟨(.type "tuple"), none, (.seq #[] 0), #[]⟩
noncomputable def b196 (P : Params) : Obj := ⟨.none, none, (.fields #[]), #[]⟩
noncomputable def b197 (P : Params) : Obj := ⟨(.type "tuple"), none, (.seq #[(.str (S "self") 498), (.str (S "code") 499), (.str (S "found") 500)] 0), #[]⟩
noncomputable def b198 (P : Params) : Obj := ⟨(.type "tuple"), none, (.seq #[] 0), #[]⟩
noncomputable def b199 (P : Params) : Obj := ⟨.none, none, (.func (mkFn0 (stIn 28 4) (S "SyntaxTable.own") .none .none .none .none none .none .none)), #[]⟩
noncomputable def b200 (P : Params) : Obj := ⟨(.type "code"), none, (.fields #[(.str (S "own") 495), (.str (S "SyntaxTable.own") 496), (.str (S "/claim/cut.py") 497), (.int (107) 0), (.int (2) 0), (.int (0) 0), (.int (0) 0), (.int (3) 0), (.ref 195), (.bool true), (.int (181) 0), (.ref 196), .none, (.ref 197), (.ref 198), (.ref 199), (.int (501) 0), (.int (107) 0), (.str (S "/claim/cut.py") 502)]), #[]⟩
noncomputable def b201 (P : Params) : Obj := ⟨(.type "function"), none, (.func (mkFn (stIn 28 4) (S "SyntaxTable.own") .none .none .none (.str (S "emacs.syntax") 333) none (.ref 200) .none)), #[]⟩
noncomputable def b202 (P : Params) : Obj := ⟨(.type "tuple"), none, (.seq #[] 0), #[]⟩
noncomputable def b203 (P : Params) : Obj := ⟨.none, none, (.fields #[]), #[]⟩
noncomputable def b204 (P : Params) : Obj := ⟨(.type "tuple"), none, (.seq #[(.str (S "self") 507), (.str (S "code") 508), (.str (S "table") 509), (.str (S "found") 510)] 0), #[]⟩
noncomputable def b205 (P : Params) : Obj := ⟨(.type "tuple"), none, (.seq #[] 0), #[]⟩
noncomputable def b206 (P : Params) : Obj := ⟨.none, none, (.func (mkFn0 (stIn 28 5) (S "SyntaxTable.at") .none .none .none .none none .none .none)), #[]⟩
noncomputable def b207 (P : Params) : Obj := ⟨(.type "code"), none, (.fields #[(.str (S "at") 504), (.str (S "SyntaxTable.at") 505), (.str (S "/claim/cut.py") 506), (.int (111) 0), (.int (2) 0), (.int (0) 0), (.int (0) 0), (.int (3) 0), (.ref 202), (.bool true), (.int (181) 0), (.ref 203), .none, (.ref 204), (.ref 205), (.ref 206), (.int (511) 0), (.int (111) 0), (.str (S "/claim/cut.py") 512)]), #[]⟩
noncomputable def b208 (P : Params) : Obj := ⟨(.type "function"), none, (.func (mkFn (stIn 28 5) (S "SyntaxTable.at") .none .none .none (.str (S "emacs.syntax") 333) none (.ref 207) .none)), #[]⟩
noncomputable def b209 (P : Params) : Obj := ⟨(.type "tuple"), none, (.seq #[] 0), #[]⟩
noncomputable def b210 (P : Params) : Obj := ⟨.none, none, (.fields #[]), #[]⟩
noncomputable def b211 (P : Params) : Obj := ⟨(.type "tuple"), none, (.seq #[(.str (S "self") 517), (.str (S "code") 518)] 0), #[]⟩
noncomputable def b212 (P : Params) : Obj := ⟨(.type "tuple"), none, (.seq #[] 0), #[]⟩
noncomputable def b213 (P : Params) : Obj := ⟨.none, none, (.func (mkFn0 (stIn 28 6) (S "SyntaxTable.kind_of") .none .none .none .none none .none .none)), #[]⟩
noncomputable def b214 (P : Params) : Obj := ⟨(.type "code"), none, (.fields #[(.str (S "kind_of") 514), (.str (S "SyntaxTable.kind_of") 515), (.str (S "/claim/cut.py") 516), (.int (120) 0), (.int (2) 0), (.int (0) 0), (.int (0) 0), (.int (3) 0), (.ref 209), (.bool true), (.int (181) 0), (.ref 210), .none, (.ref 211), (.ref 212), (.ref 213), (.int (519) 0), (.int (120) 0), (.str (S "/claim/cut.py") 520)]), #[]⟩
noncomputable def b215 (P : Params) : Obj := ⟨(.type "function"), none, (.func (mkFn (stIn 28 6) (S "SyntaxTable.kind_of") .none .none .none (.str (S "emacs.syntax") 333) none (.ref 214) .none)), #[]⟩
noncomputable def b216 (P : Params) : Obj := ⟨(.type "tuple"), none, (.seq #[] 0), #[]⟩
noncomputable def b217 (P : Params) : Obj := ⟨.none, none, (.fields #[]), #[]⟩
noncomputable def b218 (P : Params) : Obj := ⟨(.type "tuple"), none, (.seq #[(.str (S "self") 525)] 0), #[]⟩
noncomputable def b219 (P : Params) : Obj := ⟨(.type "tuple"), none, (.seq #[] 0), #[]⟩
noncomputable def b220 (P : Params) : Obj := ⟨.none, none, (.func (mkFn0 (stIn 28 7) (S "SyntaxTable.copy") .none .none .none .none none .none .none)), #[]⟩
noncomputable def b221 (P : Params) : Obj := ⟨(.type "code"), none, (.fields #[(.str (S "copy") 522), (.str (S "SyntaxTable.copy") 523), (.str (S "/claim/cut.py") 524), (.int (123) 0), (.int (1) 0), (.int (0) 0), (.int (0) 0), (.int (3) 0), (.ref 216), (.bool true), (.int (181) 0), (.ref 217), .none, (.ref 218), (.ref 219), (.ref 220), (.int (526) 0), (.int (123) 0), (.str (S "/claim/cut.py") 527)]), #[]⟩
noncomputable def b222 (P : Params) : Obj := ⟨(.type "function"), none, (.func (mkFn (stIn 28 7) (S "SyntaxTable.copy") .none .none .none (.str (S "emacs.syntax") 333) none (.ref 221) .none)), #[]⟩
noncomputable def b223 (P : Params) : Obj := ⟨(.type "tuple"), none, (.seq #[(.str (S "parent") 529), (.str (S "rows") 530)] 0), #[]⟩
noncomputable def b224 (P : Params) : Obj := ⟨(.type "dict"), none, (.dict #[⟨H P (S "__module__"), (.str (S "__module__") 452), (.str (S "emacs.syntax") 333)⟩, ⟨H P (S "__firstlineno__"), (.str (S "__firstlineno__") 456), (.int (90) 455)⟩, ⟨H P (S "__init__"), (.str (S "__init__") 464), (.ref 173)⟩, ⟨H P (S "modify"), (.str (S "modify") 473), (.ref 180)⟩, ⟨H P (S "modify_all"), (.str (S "modify_all") 484), (.ref 187)⟩, ⟨H P (S "modify_range"), (.str (S "modify_range") 494), (.ref 194)⟩, ⟨H P (S "own"), (.str (S "own") 503), (.ref 201)⟩, ⟨H P (S "at"), (.str (S "at") 513), (.ref 208)⟩, ⟨H P (S "kind_of"), (.str (S "kind_of") 521), (.ref 215)⟩, ⟨H P (S "copy"), (.str (S "copy") 528), (.ref 222)⟩, ⟨H P (S "__static_attributes__"), (.str (S "__static_attributes__") 531), (.ref 223)⟩, ⟨H P (S "__dict__"), (.str (S "__dict__") 533), (.ref 226)⟩, ⟨H P (S "__weakref__"), (.str (S "__weakref__") 535), (.ref 227)⟩, ⟨H P (S "__doc__"), (.str (S "__doc__") 536), .none⟩] 4), #[]⟩
noncomputable def b225 (P : Params) : Obj := ⟨(.type "type"), none, (.cls { name := (S "SyntaxTable"), bases := [(.type "object")], mro := [(.ref 225), (.type "object")], ns := 224, qualname := (S "SyntaxTable"), hasDict := true, slotNames := [], subclasses := [], abstract := false, collection := none, hasDel := false }), #[none, none, (some (.str (S "SyntaxTable") 445)), (some (.str (S "SyntaxTable") 453)), (some (.builtin "object.__new__")), (some (.bool true))]⟩
noncomputable def b226 (P : Params) : Obj := ⟨(.type "getset_descriptor"), none, (.fields #[(.str (S "__dict__") 532), (.ref 225), (.builtin "function.__dict__"), (.builtin "function.__dict__#set")]), #[]⟩
noncomputable def b227 (P : Params) : Obj := ⟨(.type "getset_descriptor"), none, (.fields #[(.str (S "__weakref__") 534), (.ref 225), (.builtin "ExceptionGroup.__weakref__"), .none]), #[]⟩
noncomputable def b228 (P : Params) : Obj := ⟨(.type "super"), none, (.fields #[(.ref 225), (.ref 225), (.ref 225)]), #[]⟩
noncomputable def b229 (P : Params) : Obj := ⟨(.type "builtin_function_or_method"), none, (.fields #[(.builtin "object.__init_subclass__"), (.ref 225)]), #[]⟩
noncomputable def b230 (P : Params) : Obj := ⟨(.type "tuple"), none, (.seq #[] 0), #[]⟩
noncomputable def b231 (P : Params) : Obj := ⟨.none, none, (.fields #[]), #[]⟩
noncomputable def b232 (P : Params) : Obj := ⟨(.type "tuple"), none, (.seq #[] 0), #[]⟩
noncomputable def b233 (P : Params) : Obj := ⟨(.type "tuple"), none, (.seq #[] 0), #[]⟩
noncomputable def b234 (P : Params) : Obj := ⟨.none, none, (.func (mkFn0 (st 29) (S "letters") .none .none .none .none none .none .none)), #[]⟩
noncomputable def b235 (P : Params) : Obj := ⟨(.type "code"), none, (.fields #[(.str (S "letters") 539), (.str (S "letters") 540), (.str (S "/claim/cut.py") 541), (.int (125) 0), (.int (0) 0), (.int (0) 0), (.int (0) 0), (.int (3) 0), (.ref 230), (.bool true), (.int (181) 0), (.ref 231), .none, (.ref 232), (.ref 233), (.ref 234), (.int (542) 0), (.int (125) 0), (.str (S "/claim/cut.py") 543)]), #[]⟩
noncomputable def b236 (P : Params) : Obj := ⟨(.type "function"), none, (.func (mkFn (st 29) (S "letters") .none .none .none (.str (S "emacs.syntax") 333) none (.ref 235) .none)), #[]⟩
noncomputable def b237 (P : Params) : Obj := ⟨(.type "tuple"), none, (.seq #[] 0), #[]⟩
noncomputable def b238 (P : Params) : Obj := ⟨.none, none, (.fields #[]), #[]⟩
noncomputable def b239 (P : Params) : Obj := ⟨(.type "tuple"), none, (.seq #[(.str (S "table") 548), (.str (S "opens") 549), (.str (S "closes") 550)] 0), #[]⟩
noncomputable def b240 (P : Params) : Obj := ⟨(.type "tuple"), none, (.seq #[] 0), #[]⟩
noncomputable def b241 (P : Params) : Obj := ⟨.none, none, (.func (mkFn0 (st 30) (S "standard_table") .none .none .none .none none .none .none)), #[]⟩
noncomputable def b242 (P : Params) : Obj := ⟨(.type "code"), none, (.fields #[(.str (S "standard_table") 545), (.str (S "standard_table") 546), (.str (S "/claim/cut.py") 547), (.int (127) 0), (.int (0) 0), (.int (0) 0), (.int (0) 0), (.int (3) 0), (.ref 237), (.bool true), (.int (181) 0), (.ref 238), .none, (.ref 239), (.ref 240), (.ref 241), (.int (551) 0), (.int (127) 0), (.str (S "/claim/cut.py") 552)]), #[]⟩
noncomputable def b243 (P : Params) : Obj := ⟨(.type "function"), none, (.func (mkFn (st 30) (S "standard_table") .none .none .none (.str (S "emacs.syntax") 333) none (.ref 242) .none)), #[]⟩
noncomputable def b244 (P : Params) : Obj := ⟨(.type "tuple"), none, (.seq #[] 0), #[]⟩
noncomputable def b245 (P : Params) : Obj := ⟨(.type "builtin_function_or_method"), none, (.fields #[(.builtin "type.__prepare__"), (.type "type")]), #[]⟩
noncomputable def b246 (P : Params) : Obj := ⟨(.type "dict"), none, (.dict #[⟨H P (S "__module__"), (.str (S "__module__") 563), (.str (S "emacs.syntaxpairs") 554)⟩, ⟨H P (S "__qualname__"), (.str (S "__qualname__") 565), (.str (S "Mark") 564)⟩, ⟨H P (S "__firstlineno__"), (.str (S "__firstlineno__") 567), (.int (140) 566)⟩, ⟨H P (S "__init__"), (.str (S "__init__") 578), (.ref 257)⟩, ⟨H P (S "__static_attributes__"), (.str (S "__static_attributes__") 583), (.ref 258)⟩] 5), #[]⟩
noncomputable def b247 (P : Params) : Obj := ⟨(.type "tuple"), none, (.seq #[] 0), #[]⟩
noncomputable def b248 (P : Params) : Obj := ⟨.none, none, (.fields #[(.int (142) 0), (.int (4) 0), (.ref 256)]), #[]⟩
noncomputable def b249 (P : Params) : Obj := ⟨(.type "code"), none, (.fields #[(.str (S "Mark") 558), (.str (S "Mark") 559), (.str (S "/claim/cut.py") 560), (.int (140) 0), (.int (0) 0), (.int (0) 0), (.int (0) 0), (.int (0) 0), (.ref 247), (.bool false), (.int (181) 0), (.ref 248), .none, .none, .none, .none, (.int (561) 0), (.int (140) 0), (.str (S "/claim/cut.py") 562)]), #[]⟩
noncomputable def b250 (P : Params) : Obj := ⟨(.type "frame"), none, .plain, #[(some (.ref 249)), (some (.ref 3)), (some (.ref 246)), none, (some (.str (S "emacs.syntaxpairs") 554)), none, (some (.ref 0))]⟩
noncomputable def b251 (P : Params) : Obj := ⟨(.type "tuple"), none, (.seq #[] 0), #[]⟩
noncomputable def b252 (P : Params) : Obj := ⟨.none, none, (.fields #[]), #[]⟩
noncomputable def b253 (P : Params) : Obj := ⟨(.type "tuple"), none, (.seq #[(.str (S "self") 571), (.str (S "length") 572), (.str (S "style") 573), (.str (S "nests") 574), (.str (S "is_fence") 575)] 0), #[]⟩
noncomputable def b254 (P : Params) : Obj := ⟨(.type "tuple"), none, (.seq #[] 0), #[]⟩
noncomputable def b255 (P : Params) : Obj := ⟨.none, none, (.func (mkFn0 (stIn 32 0) (S "Mark.__init__") .none .none .none .none none .none .none)), #[]⟩
noncomputable def b256 (P : Params) : Obj := ⟨(.type "code"), none, (.fields #[(.str (S "__init__") 568), (.str (S "Mark.__init__") 569), (.str (S "/claim/cut.py") 570), (.int (142) 0), (.int (5) 0), (.int (0) 0), (.int (0) 0), (.int (3) 0), (.ref 251), (.bool true), (.int (181) 0), (.ref 252), .none, (.ref 253), (.ref 254), (.ref 255), (.int (576) 0), (.int (142) 0), (.str (S "/claim/cut.py") 577)]), #[]⟩
noncomputable def b257 (P : Params) : Obj := ⟨(.type "function"), none, (.func (mkFn (stIn 32 0) (S "Mark.__init__") .none .none .none (.str (S "emacs.syntaxpairs") 554) none (.ref 256) .none)), #[]⟩
noncomputable def b258 (P : Params) : Obj := ⟨(.type "tuple"), none, (.seq #[(.str (S "is_fence") 579), (.str (S "length") 580), (.str (S "nests") 581), (.str (S "style") 582)] 0), #[]⟩
noncomputable def b259 (P : Params) : Obj := ⟨(.type "dict"), none, (.dict #[⟨H P (S "__module__"), (.str (S "__module__") 563), (.str (S "emacs.syntaxpairs") 554)⟩, ⟨H P (S "__firstlineno__"), (.str (S "__firstlineno__") 567), (.int (140) 566)⟩, ⟨H P (S "__init__"), (.str (S "__init__") 578), (.ref 257)⟩, ⟨H P (S "__static_attributes__"), (.str (S "__static_attributes__") 583), (.ref 258)⟩, ⟨H P (S "__dict__"), (.str (S "__dict__") 585), (.ref 261)⟩, ⟨H P (S "__weakref__"), (.str (S "__weakref__") 587), (.ref 262)⟩, ⟨H P (S "__doc__"), (.str (S "__doc__") 588), .none⟩] 4), #[]⟩
noncomputable def b260 (P : Params) : Obj := ⟨(.type "type"), none, (.cls { name := (S "Mark"), bases := [(.type "object")], mro := [(.ref 260), (.type "object")], ns := 259, qualname := (S "Mark"), hasDict := true, slotNames := [], subclasses := [], abstract := false, collection := none, hasDel := false }), #[none, none, (some (.str (S "Mark") 556)), (some (.str (S "Mark") 564)), (some (.builtin "object.__new__")), (some (.bool true))]⟩
noncomputable def b261 (P : Params) : Obj := ⟨(.type "getset_descriptor"), none, (.fields #[(.str (S "__dict__") 584), (.ref 260), (.builtin "function.__dict__"), (.builtin "function.__dict__#set")]), #[]⟩
noncomputable def b262 (P : Params) : Obj := ⟨(.type "getset_descriptor"), none, (.fields #[(.str (S "__weakref__") 586), (.ref 260), (.builtin "ExceptionGroup.__weakref__"), .none]), #[]⟩
noncomputable def b263 (P : Params) : Obj := ⟨(.type "super"), none, (.fields #[(.ref 260), (.ref 260), (.ref 260)]), #[]⟩
noncomputable def b264 (P : Params) : Obj := ⟨(.type "builtin_function_or_method"), none, (.fields #[(.builtin "object.__init_subclass__"), (.ref 260)]), #[]⟩
noncomputable def b265 (P : Params) : Obj := ⟨(.type "tuple"), none, (.seq #[] 0), #[]⟩
noncomputable def b266 (P : Params) : Obj := ⟨.none, none, (.fields #[]), #[]⟩
noncomputable def b267 (P : Params) : Obj := ⟨(.type "tuple"), none, (.seq #[(.str (S "view") 594), (.str (S "table") 595), (.str (S "place") 596), (.str (S "code") 597)] 0), #[]⟩
noncomputable def b268 (P : Params) : Obj := ⟨(.type "tuple"), none, (.seq #[] 0), #[]⟩
noncomputable def b269 (P : Params) : Obj := ⟨.none, none, (.func (mkFn0 (st 33) (S "syntax_at") .none .none .none .none none .none .none)), #[]⟩
noncomputable def b270 (P : Params) : Obj := ⟨(.type "code"), none, (.fields #[(.str (S "syntax_at") 591), (.str (S "syntax_at") 592), (.str (S "/claim/cut.py") 593), (.int (147) 0), (.int (3) 0), (.int (0) 0), (.int (0) 0), (.int (3) 0), (.ref 265), (.bool true), (.int (181) 0), (.ref 266), .none, (.ref 267), (.ref 268), (.ref 269), (.int (598) 0), (.int (147) 0), (.str (S "/claim/cut.py") 599)]), #[]⟩
noncomputable def b271 (P : Params) : Obj := ⟨(.type "function"), none, (.func (mkFn (st 33) (S "syntax_at") .none .none .none (.str (S "emacs.syntaxpairs") 554) none (.ref 270) .none)), #[]⟩
noncomputable def b272 (P : Params) : Obj := ⟨(.type "tuple"), none, (.seq #[] 0), #[]⟩
noncomputable def b273 (P : Params) : Obj := ⟨.none, none, (.fields #[]), #[]⟩
noncomputable def b274 (P : Params) : Obj := ⟨(.type "tuple"), none, (.seq #[(.str (S "told") 604), (.str (S "other") 605), (.str (S "style") 606)] 0), #[]⟩
noncomputable def b275 (P : Params) : Obj := ⟨(.type "tuple"), none, (.seq #[] 0), #[]⟩
noncomputable def b276 (P : Params) : Obj := ⟨.none, none, (.func (mkFn0 (st 34) (S "pair_style") .none .none .none .none none .none .none)), #[]⟩
noncomputable def b277 (P : Params) : Obj := ⟨(.type "code"), none, (.fields #[(.str (S "pair_style") 601), (.str (S "pair_style") 602), (.str (S "/claim/cut.py") 603), (.int (150) 0), (.int (2) 0), (.int (0) 0), (.int (0) 0), (.int (3) 0), (.ref 272), (.bool true), (.int (181) 0), (.ref 273), .none, (.ref 274), (.ref 275), (.ref 276), (.int (607) 0), (.int (150) 0), (.str (S "/claim/cut.py") 608)]), #[]⟩
noncomputable def b278 (P : Params) : Obj := ⟨(.type "function"), none, (.func (mkFn (st 34) (S "pair_style") .none .none .none (.str (S "emacs.syntaxpairs") 554) none (.ref 277) .none)), #[]⟩
noncomputable def b279 (P : Params) : Obj := ⟨(.type "tuple"), none, (.seq #[] 0), #[]⟩
noncomputable def b280 (P : Params) : Obj := ⟨.none, none, (.fields #[]), #[]⟩
noncomputable def b281 (P : Params) : Obj := ⟨(.type "tuple"), none, (.seq #[(.str (S "view") 613), (.str (S "table") 614), (.str (S "place") 615), (.str (S "one") 616), (.str (S "other") 617)] 0), #[]⟩
noncomputable def b282 (P : Params) : Obj := ⟨(.type "tuple"), none, (.seq #[] 0), #[]⟩
noncomputable def b283 (P : Params) : Obj := ⟨.none, none, (.func (mkFn0 (st 35) (S "begin_mark") .none .none .none .none none .none .none)), #[]⟩
noncomputable def b284 (P : Params) : Obj := ⟨(.type "code"), none, (.fields #[(.str (S "begin_mark") 610), (.str (S "begin_mark") 611), (.str (S "/claim/cut.py") 612), (.int (153) 0), (.int (3) 0), (.int (0) 0), (.int (0) 0), (.int (3) 0), (.ref 279), (.bool true), (.int (181) 0), (.ref 280), .none, (.ref 281), (.ref 282), (.ref 283), (.int (618) 0), (.int (153) 0), (.str (S "/claim/cut.py") 619)]), #[]⟩
noncomputable def b285 (P : Params) : Obj := ⟨(.type "function"), none, (.func (mkFn (st 35) (S "begin_mark") .none .none .none (.str (S "emacs.syntaxpairs") 554) none (.ref 284) .none)), #[]⟩
noncomputable def b286 (P : Params) : Obj := ⟨(.type "tuple"), none, (.seq #[] 0), #[]⟩
noncomputable def b287 (P : Params) : Obj := ⟨.none, none, (.fields #[]), #[]⟩
noncomputable def b288 (P : Params) : Obj := ⟨(.type "tuple"), none, (.seq #[(.str (S "view") 624), (.str (S "table") 625), (.str (S "place") 626), (.str (S "one") 627), (.str (S "other") 628)] 0), #[]⟩
noncomputable def b289 (P : Params) : Obj := ⟨(.type "tuple"), none, (.seq #[] 0), #[]⟩
noncomputable def b290 (P : Params) : Obj := ⟨.none, none, (.func (mkFn0 (st 36) (S "end_mark") .none .none .none .none none .none .none)), #[]⟩
noncomputable def b291 (P : Params) : Obj := ⟨(.type "code"), none, (.fields #[(.str (S "end_mark") 621), (.str (S "end_mark") 622), (.str (S "/claim/cut.py") 623), (.int (162) 0), (.int (3) 0), (.int (0) 0), (.int (0) 0), (.int (3) 0), (.ref 286), (.bool true), (.int (181) 0), (.ref 287), .none, (.ref 288), (.ref 289), (.ref 290), (.int (629) 0), (.int (162) 0), (.str (S "/claim/cut.py") 630)]), #[]⟩
noncomputable def b292 (P : Params) : Obj := ⟨(.type "function"), none, (.func (mkFn (st 36) (S "end_mark") .none .none .none (.str (S "emacs.syntaxpairs") 554) none (.ref 291) .none)), #[]⟩
noncomputable def b293 (P : Params) : Obj := ⟨(.type "tuple"), none, (.seq #[] 0), #[]⟩
noncomputable def b294 (P : Params) : Obj := ⟨.none, none, (.fields #[]), #[]⟩
noncomputable def b295 (P : Params) : Obj := ⟨(.type "tuple"), none, (.seq #[(.str (S "mark") 635), (.str (S "style") 636), (.str (S "nests") 637), (.str (S "is_fence") 638)] 0), #[]⟩
noncomputable def b296 (P : Params) : Obj := ⟨(.type "tuple"), none, (.seq #[] 0), #[]⟩
noncomputable def b297 (P : Params) : Obj := ⟨.none, none, (.func (mkFn0 (st 37) (S "fits") .none .none .none .none none .none .none)), #[]⟩
noncomputable def b298 (P : Params) : Obj := ⟨(.type "code"), none, (.fields #[(.str (S "fits") 632), (.str (S "fits") 633), (.str (S "/claim/cut.py") 634), (.int (171) 0), (.int (4) 0), (.int (0) 0), (.int (0) 0), (.int (3) 0), (.ref 293), (.bool true), (.int (181) 0), (.ref 294), .none, (.ref 295), (.ref 296), (.ref 297), (.int (639) 0), (.int (171) 0), (.str (S "/claim/cut.py") 640)]), #[]⟩
noncomputable def b299 (P : Params) : Obj := ⟨(.type "function"), none, (.func (mkFn (st 37) (S "fits") .none .none .none (.str (S "emacs.syntaxpairs") 554) none (.ref 298) .none)), #[]⟩
noncomputable def b300 (P : Params) : Obj := ⟨(.type "tuple"), none, (.seq #[] 0), #[]⟩
noncomputable def b301 (P : Params) : Obj := ⟨.none, none, (.fields #[]), #[]⟩
noncomputable def b302 (P : Params) : Obj := ⟨(.type "tuple"), none, (.seq #[(.str (S "view") 645), (.str (S "table") 646), (.str (S "place") 647), (.str (S "count") 648), (.str (S "before") 649)] 0), #[]⟩
noncomputable def b303 (P : Params) : Obj := ⟨(.type "tuple"), none, (.seq #[] 0), #[]⟩
noncomputable def b304 (P : Params) : Obj := ⟨.none, none, (.func (mkFn0 (st 38) (S "is_quoted") .none .none .none .none none .none .none)), #[]⟩
noncomputable def b305 (P : Params) : Obj := ⟨(.type "code"), none, (.fields #[(.str (S "is_quoted") 642), (.str (S "is_quoted") 643), (.str (S "/claim/cut.py") 644), (.int (175) 0), (.int (3) 0), (.int (0) 0), (.int (0) 0), (.int (3) 0), (.ref 300), (.bool true), (.int (181) 0), (.ref 301), .none, (.ref 302), (.ref 303), (.ref 304), (.int (650) 0), (.int (175) 0), (.str (S "/claim/cut.py") 651)]), #[]⟩
noncomputable def b306 (P : Params) : Obj := ⟨(.type "function"), none, (.func (mkFn (st 38) (S "is_quoted") .none .none .none (.str (S "emacs.syntaxpairs") 554) none (.ref 305) .none)), #[]⟩
noncomputable def b307 (P : Params) : Obj := ⟨(.type "tuple"), none, (.seq #[] 0), #[]⟩
noncomputable def b308 (P : Params) : Obj := ⟨(.type "builtin_function_or_method"), none, (.fields #[(.builtin "type.__prepare__"), (.type "type")]), #[]⟩
noncomputable def b309 (P : Params) : Obj := ⟨(.type "dict"), none, (.dict #[⟨H P (S "__module__"), (.str (S "__module__") 662), (.str (S "emacs.parse") 653)⟩, ⟨H P (S "__qualname__"), (.str (S "__qualname__") 664), (.str (S "Walk") 663)⟩, ⟨H P (S "__firstlineno__"), (.str (S "__firstlineno__") 666), (.int (183) 665)⟩, ⟨H P (S "__init__"), (.str (S "__init__") 677), (.ref 320)⟩, ⟨H P (S "state"), (.str (S "state") 685), (.ref 327)⟩, ⟨H P (S "depth"), (.str (S "depth") 692), (.ref 334)⟩, ⟨H P (S "end_word"), (.str (S "end_word") 699), (.ref 341)⟩, ⟨H P (S "begin_word"), (.str (S "begin_word") 706), (.ref 348)⟩, ⟨H P (S "open_at"), (.str (S "open_at") 714), (.ref 355)⟩, ⟨H P (S "close"), (.str (S "close") 721), (.ref 362)⟩, ⟨H P (S "begin_comment"), (.str (S "begin_comment") 730), (.ref 369)⟩, ⟨H P (S "leave_comment"), (.str (S "leave_comment") 737), (.ref 376)⟩, ⟨H P (S "begin_string"), (.str (S "begin_string") 745), (.ref 383)⟩, ⟨H P (S "end_string"), (.str (S "end_string") 752), (.ref 390)⟩, ⟨H P (S "take"), (.str (S "take") 762), (.ref 397)⟩, ⟨H P (S "step_in_comment"), (.str (S "step_in_comment") 772), (.ref 404)⟩, ⟨H P (S "step_in_string"), (.str (S "step_in_string") 781), (.ref 411)⟩, ⟨H P (S "finish_half"), (.str (S "finish_half") 789), (.ref 418)⟩, ⟨H P (S "step_plain"), (.str (S "step_plain") 800), (.ref 425)⟩, ⟨H P (S "step_by_kind"), (.str (S "step_by_kind") 808), (.ref 432)⟩, ⟨H P (S "step"), (.str (S "step") 816), (.ref 439)⟩, ⟨H P (S "__static_attributes__"), (.str (S "__static_attributes__") 832), (.ref 440)⟩] 22), #[]⟩
noncomputable def b310 (P : Params) : Obj := ⟨(.type "tuple"), none, (.seq #[] 0), #[]⟩
noncomputable def b311 (P : Params) : Obj := ⟨.none, none, (.fields #[(.int (185) 0), (.int (4) 0), (.ref 319), (.int (202) 0), (.int (4) 0), (.ref 326), (.int (206) 0), (.int (4) 0), (.ref 333), (.int (209) 0), (.int (4) 0), (.ref 340), (.int (214) 0), (.int (4) 0), (.ref 347), (.int (218) 0), (.int (4) 0), (.ref 354), (.int (223) 0), (.int (4) 0), (.ref 361), (.int (232) 0), (.int (4) 0), (.ref 368), (.int (239) 0), (.int (4) 0), (.ref 375), (.int (248) 0), (.int (4) 0), (.ref 382), (.int (253) 0), (.int (4) 0), (.ref 389), (.int (258) 0), (.int (4) 0), (.ref 396), (.int (266) 0), (.int (4) 0), (.ref 403), (.int (279) 0), (.int (4) 0), (.ref 410), (.int (290) 0), (.int (4) 0), (.ref 417), (.int (301) 0), (.int (4) 0), (.ref 424), (.int (319) 0), (.int (4) 0), (.ref 431), (.int (336) 0), (.int (4) 0), (.ref 438)]), #[]⟩
noncomputable def b312 (P : Params) : Obj := ⟨(.type "code"), none, (.fields #[(.str (S "Walk") 657), (.str (S "Walk") 658), (.str (S "/claim/cut.py") 659), (.int (183) 0), (.int (0) 0), (.int (0) 0), (.int (0) 0), (.int (0) 0), (.ref 310), (.bool false), (.int (181) 0), (.ref 311), .none, .none, .none, .none, (.int (660) 0), (.int (183) 0), (.str (S "/claim/cut.py") 661)]), #[]⟩
noncomputable def b313 (P : Params) : Obj := ⟨(.type "frame"), none, .plain, #[(some (.ref 312)), (some (.ref 3)), (some (.ref 309)), none, (some (.str (S "emacs.parse") 653)), none, (some (.ref 0))]⟩
noncomputable def b314 (P : Params) : Obj := ⟨(.type "tuple"), none, (.seq #[] 0), #[]⟩
noncomputable def b315 (P : Params) : Obj := ⟨.none, none, (.fields #[]), #[]⟩
noncomputable def b316 (P : Params) : Obj := ⟨(.type "tuple"), none, (.seq #[(.str (S "self") 670), (.str (S "view") 671), (.str (S "table") 672), (.str (S "place") 673), (.str (S "state") 674)] 0), #[]⟩
noncomputable def b317 (P : Params) : Obj := ⟨(.type "tuple"), none, (.seq #[] 0), #[]⟩
noncomputable def b318 (P : Params) : Obj := ⟨.none, none, (.func (mkFn0 (stIn 40 0) (S "Walk.__init__") .none .none .none .none none .none .none)), #[]⟩
noncomputable def b319 (P : Params) : Obj := ⟨(.type "code"), none, (.fields #[(.str (S "__init__") 667), (.str (S "Walk.__init__") 668), (.str (S "/claim/cut.py") 669), (.int (185) 0), (.int (5) 0), (.int (0) 0), (.int (0) 0), (.int (3) 0), (.ref 314), (.bool true), (.int (181) 0), (.ref 315), .none, (.ref 316), (.ref 317), (.ref 318), (.int (675) 0), (.int (185) 0), (.str (S "/claim/cut.py") 676)]), #[]⟩
noncomputable def b320 (P : Params) : Obj := ⟨(.type "function"), none, (.func (mkFn (stIn 40 0) (S "Walk.__init__") .none .none .none (.str (S "emacs.parse") 653) none (.ref 319) .none)), #[]⟩
noncomputable def b321 (P : Params) : Obj := ⟨(.type "tuple"), none, (.seq #[] 0), #[]⟩
noncomputable def b322 (P : Params) : Obj := ⟨.none, none, (.fields #[]), #[]⟩
noncomputable def b323 (P : Params) : Obj := ⟨(.type "tuple"), none, (.seq #[(.str (S "self") 681), (.str (S "inner") 682)] 0), #[]⟩
noncomputable def b324 (P : Params) : Obj := ⟨(.type "tuple"), none, (.seq #[] 0), #[]⟩
noncomputable def b325 (P : Params) : Obj := ⟨.none, none, (.func (mkFn0 (stIn 40 1) (S "Walk.state") .none .none .none .none none .none .none)), #[]⟩
noncomputable def b326 (P : Params) : Obj := ⟨(.type "code"), none, (.fields #[(.str (S "state") 678), (.str (S "Walk.state") 679), (.str (S "/claim/cut.py") 680), (.int (202) 0), (.int (1) 0), (.int (0) 0), (.int (0) 0), (.int (3) 0), (.ref 321), (.bool true), (.int (181) 0), (.ref 322), .none, (.ref 323), (.ref 324), (.ref 325), (.int (683) 0), (.int (202) 0), (.str (S "/claim/cut.py") 684)]), #[]⟩
noncomputable def b327 (P : Params) : Obj := ⟨(.type "function"), none, (.func (mkFn (stIn 40 1) (S "Walk.state") .none .none .none (.str (S "emacs.parse") 653) none (.ref 326) .none)), #[]⟩
noncomputable def b328 (P : Params) : Obj := ⟨(.type "tuple"), none, (.seq #[] 0), #[]⟩
noncomputable def b329 (P : Params) : Obj := ⟨.none, none, (.fields #[]), #[]⟩
noncomputable def b330 (P : Params) : Obj := ⟨(.type "tuple"), none, (.seq #[(.str (S "self") 689)] 0), #[]⟩
noncomputable def b331 (P : Params) : Obj := ⟨(.type "tuple"), none, (.seq #[] 0), #[]⟩
noncomputable def b332 (P : Params) : Obj := ⟨.none, none, (.func (mkFn0 (stIn 40 2) (S "Walk.depth") .none .none .none .none none .none .none)), #[]⟩
noncomputable def b333 (P : Params) : Obj := ⟨(.type "code"), none, (.fields #[(.str (S "depth") 686), (.str (S "Walk.depth") 687), (.str (S "/claim/cut.py") 688), (.int (206) 0), (.int (1) 0), (.int (0) 0), (.int (0) 0), (.int (3) 0), (.ref 328), (.bool true), (.int (181) 0), (.ref 329), .none, (.ref 330), (.ref 331), (.ref 332), (.int (690) 0), (.int (206) 0), (.str (S "/claim/cut.py") 691)]), #[]⟩
noncomputable def b334 (P : Params) : Obj := ⟨(.type "function"), none, (.func (mkFn (stIn 40 2) (S "Walk.depth") .none .none .none (.str (S "emacs.parse") 653) none (.ref 333) .none)), #[]⟩
noncomputable def b335 (P : Params) : Obj := ⟨(.type "tuple"), none, (.seq #[] 0), #[]⟩
noncomputable def b336 (P : Params) : Obj := ⟨.none, none, (.fields #[]), #[]⟩
noncomputable def b337 (P : Params) : Obj := ⟨(.type "tuple"), none, (.seq #[(.str (S "self") 696)] 0), #[]⟩
noncomputable def b338 (P : Params) : Obj := ⟨(.type "tuple"), none, (.seq #[] 0), #[]⟩
noncomputable def b339 (P : Params) : Obj := ⟨.none, none, (.func (mkFn0 (stIn 40 3) (S "Walk.end_word") .none .none .none .none none .none .none)), #[]⟩
noncomputable def b340 (P : Params) : Obj := ⟨(.type "code"), none, (.fields #[(.str (S "end_word") 693), (.str (S "Walk.end_word") 694), (.str (S "/claim/cut.py") 695), (.int (209) 0), (.int (1) 0), (.int (0) 0), (.int (0) 0), (.int (3) 0), (.ref 335), (.bool true), (.int (181) 0), (.ref 336), .none, (.ref 337), (.ref 338), (.ref 339), (.int (697) 0), (.int (209) 0), (.str (S "/claim/cut.py") 698)]), #[]⟩
noncomputable def b341 (P : Params) : Obj := ⟨(.type "function"), none, (.func (mkFn (stIn 40 3) (S "Walk.end_word") .none .none .none (.str (S "emacs.parse") 653) none (.ref 340) .none)), #[]⟩
noncomputable def b342 (P : Params) : Obj := ⟨(.type "tuple"), none, (.seq #[] 0), #[]⟩
noncomputable def b343 (P : Params) : Obj := ⟨.none, none, (.fields #[]), #[]⟩
noncomputable def b344 (P : Params) : Obj := ⟨(.type "tuple"), none, (.seq #[(.str (S "self") 703)] 0), #[]⟩
noncomputable def b345 (P : Params) : Obj := ⟨(.type "tuple"), none, (.seq #[] 0), #[]⟩
noncomputable def b346 (P : Params) : Obj := ⟨.none, none, (.func (mkFn0 (stIn 40 4) (S "Walk.begin_word") .none .none .none .none none .none .none)), #[]⟩
noncomputable def b347 (P : Params) : Obj := ⟨(.type "code"), none, (.fields #[(.str (S "begin_word") 700), (.str (S "Walk.begin_word") 701), (.str (S "/claim/cut.py") 702), (.int (214) 0), (.int (1) 0), (.int (0) 0), (.int (0) 0), (.int (3) 0), (.ref 342), (.bool true), (.int (181) 0), (.ref 343), .none, (.ref 344), (.ref 345), (.ref 346), (.int (704) 0), (.int (214) 0), (.str (S "/claim/cut.py") 705)]), #[]⟩
noncomputable def b348 (P : Params) : Obj := ⟨(.type "function"), none, (.func (mkFn (stIn 40 4) (S "Walk.begin_word") .none .none .none (.str (S "emacs.parse") 653) none (.ref 347) .none)), #[]⟩
noncomputable def b349 (P : Params) : Obj := ⟨(.type "tuple"), none, (.seq #[] 0), #[]⟩
noncomputable def b350 (P : Params) : Obj := ⟨.none, none, (.fields #[]), #[]⟩
noncomputable def b351 (P : Params) : Obj := ⟨(.type "tuple"), none, (.seq #[(.str (S "self") 710), (.str (S "place") 711)] 0), #[]⟩
noncomputable def b352 (P : Params) : Obj := ⟨(.type "tuple"), none, (.seq #[] 0), #[]⟩
noncomputable def b353 (P : Params) : Obj := ⟨.none, none, (.func (mkFn0 (stIn 40 5) (S "Walk.open_at") .none .none .none .none none .none .none)), #[]⟩
noncomputable def b354 (P : Params) : Obj := ⟨(.type "code"), none, (.fields #[(.str (S "open_at") 707), (.str (S "Walk.open_at") 708), (.str (S "/claim/cut.py") 709), (.int (218) 0), (.int (2) 0), (.int (0) 0), (.int (0) 0), (.int (3) 0), (.ref 349), (.bool true), (.int (181) 0), (.ref 350), .none, (.ref 351), (.ref 352), (.ref 353), (.int (712) 0), (.int (218) 0), (.str (S "/claim/cut.py") 713)]), #[]⟩
noncomputable def b355 (P : Params) : Obj := ⟨(.type "function"), none, (.func (mkFn (stIn 40 5) (S "Walk.open_at") .none .none .none (.str (S "emacs.parse") 653) none (.ref 354) .none)), #[]⟩
noncomputable def b356 (P : Params) : Obj := ⟨(.type "tuple"), none, (.seq #[] 0), #[]⟩
noncomputable def b357 (P : Params) : Obj := ⟨.none, none, (.fields #[]), #[]⟩
noncomputable def b358 (P : Params) : Obj := ⟨(.type "tuple"), none, (.seq #[(.str (S "self") 718)] 0), #[]⟩
noncomputable def b359 (P : Params) : Obj := ⟨(.type "tuple"), none, (.seq #[] 0), #[]⟩
noncomputable def b360 (P : Params) : Obj := ⟨.none, none, (.func (mkFn0 (stIn 40 6) (S "Walk.close") .none .none .none .none none .none .none)), #[]⟩
noncomputable def b361 (P : Params) : Obj := ⟨(.type "code"), none, (.fields #[(.str (S "close") 715), (.str (S "Walk.close") 716), (.str (S "/claim/cut.py") 717), (.int (223) 0), (.int (1) 0), (.int (0) 0), (.int (0) 0), (.int (3) 0), (.ref 356), (.bool true), (.int (181) 0), (.ref 357), .none, (.ref 358), (.ref 359), (.ref 360), (.int (719) 0), (.int (223) 0), (.str (S "/claim/cut.py") 720)]), #[]⟩
noncomputable def b362 (P : Params) : Obj := ⟨(.type "function"), none, (.func (mkFn (stIn 40 6) (S "Walk.close") .none .none .none (.str (S "emacs.parse") 653) none (.ref 361) .none)), #[]⟩
noncomputable def b363 (P : Params) : Obj := ⟨(.type "tuple"), none, (.seq #[] 0), #[]⟩
noncomputable def b364 (P : Params) : Obj := ⟨.none, none, (.fields #[]), #[]⟩
noncomputable def b365 (P : Params) : Obj := ⟨(.type "tuple"), none, (.seq #[(.str (S "self") 725), (.str (S "mark") 726), (.str (S "start") 727)] 0), #[]⟩
noncomputable def b366 (P : Params) : Obj := ⟨(.type "tuple"), none, (.seq #[] 0), #[]⟩
noncomputable def b367 (P : Params) : Obj := ⟨.none, none, (.func (mkFn0 (stIn 40 7) (S "Walk.begin_comment") .none .none .none .none none .none .none)), #[]⟩
noncomputable def b368 (P : Params) : Obj := ⟨(.type "code"), none, (.fields #[(.str (S "begin_comment") 722), (.str (S "Walk.begin_comment") 723), (.str (S "/claim/cut.py") 724), (.int (232) 0), (.int (3) 0), (.int (0) 0), (.int (0) 0), (.int (3) 0), (.ref 363), (.bool true), (.int (181) 0), (.ref 364), .none, (.ref 365), (.ref 366), (.ref 367), (.int (728) 0), (.int (232) 0), (.str (S "/claim/cut.py") 729)]), #[]⟩
noncomputable def b369 (P : Params) : Obj := ⟨(.type "function"), none, (.func (mkFn (stIn 40 7) (S "Walk.begin_comment") .none .none .none (.str (S "emacs.parse") 653) none (.ref 368) .none)), #[]⟩
noncomputable def b370 (P : Params) : Obj := ⟨(.type "tuple"), none, (.seq #[] 0), #[]⟩
noncomputable def b371 (P : Params) : Obj := ⟨.none, none, (.fields #[]), #[]⟩
noncomputable def b372 (P : Params) : Obj := ⟨(.type "tuple"), none, (.seq #[(.str (S "self") 734)] 0), #[]⟩
noncomputable def b373 (P : Params) : Obj := ⟨(.type "tuple"), none, (.seq #[] 0), #[]⟩
noncomputable def b374 (P : Params) : Obj := ⟨.none, none, (.func (mkFn0 (stIn 40 8) (S "Walk.leave_comment") .none .none .none .none none .none .none)), #[]⟩
noncomputable def b375 (P : Params) : Obj := ⟨(.type "code"), none, (.fields #[(.str (S "leave_comment") 731), (.str (S "Walk.leave_comment") 732), (.str (S "/claim/cut.py") 733), (.int (239) 0), (.int (1) 0), (.int (0) 0), (.int (0) 0), (.int (3) 0), (.ref 370), (.bool true), (.int (181) 0), (.ref 371), .none, (.ref 372), (.ref 373), (.ref 374), (.int (735) 0), (.int (239) 0), (.str (S "/claim/cut.py") 736)]), #[]⟩
noncomputable def b376 (P : Params) : Obj := ⟨(.type "function"), none, (.func (mkFn (stIn 40 8) (S "Walk.leave_comment") .none .none .none (.str (S "emacs.parse") 653) none (.ref 375) .none)), #[]⟩
noncomputable def b377 (P : Params) : Obj := ⟨(.type "tuple"), none, (.seq #[] 0), #[]⟩
noncomputable def b378 (P : Params) : Obj := ⟨.none, none, (.fields #[]), #[]⟩
noncomputable def b379 (P : Params) : Obj := ⟨(.type "tuple"), none, (.seq #[(.str (S "self") 741), (.str (S "ender") 742)] 0), #[]⟩
noncomputable def b380 (P : Params) : Obj := ⟨(.type "tuple"), none, (.seq #[] 0), #[]⟩
noncomputable def b381 (P : Params) : Obj := ⟨.none, none, (.func (mkFn0 (stIn 40 9) (S "Walk.begin_string") .none .none .none .none none .none .none)), #[]⟩
noncomputable def b382 (P : Params) : Obj := ⟨(.type "code"), none, (.fields #[(.str (S "begin_string") 738), (.str (S "Walk.begin_string") 739), (.str (S "/claim/cut.py") 740), (.int (248) 0), (.int (2) 0), (.int (0) 0), (.int (0) 0), (.int (3) 0), (.ref 377), (.bool true), (.int (181) 0), (.ref 378), .none, (.ref 379), (.ref 380), (.ref 381), (.int (743) 0), (.int (248) 0), (.str (S "/claim/cut.py") 744)]), #[]⟩
noncomputable def b383 (P : Params) : Obj := ⟨(.type "function"), none, (.func (mkFn (stIn 40 9) (S "Walk.begin_string") .none .none .none (.str (S "emacs.parse") 653) none (.ref 382) .none)), #[]⟩
noncomputable def b384 (P : Params) : Obj := ⟨(.type "tuple"), none, (.seq #[] 0), #[]⟩
noncomputable def b385 (P : Params) : Obj := ⟨.none, none, (.fields #[]), #[]⟩
noncomputable def b386 (P : Params) : Obj := ⟨(.type "tuple"), none, (.seq #[(.str (S "self") 749)] 0), #[]⟩
noncomputable def b387 (P : Params) : Obj := ⟨(.type "tuple"), none, (.seq #[] 0), #[]⟩
noncomputable def b388 (P : Params) : Obj := ⟨.none, none, (.func (mkFn0 (stIn 40 10) (S "Walk.end_string") .none .none .none .none none .none .none)), #[]⟩
noncomputable def b389 (P : Params) : Obj := ⟨(.type "code"), none, (.fields #[(.str (S "end_string") 746), (.str (S "Walk.end_string") 747), (.str (S "/claim/cut.py") 748), (.int (253) 0), (.int (1) 0), (.int (0) 0), (.int (0) 0), (.int (3) 0), (.ref 384), (.bool true), (.int (181) 0), (.ref 385), .none, (.ref 386), (.ref 387), (.ref 388), (.int (750) 0), (.int (253) 0), (.str (S "/claim/cut.py") 751)]), #[]⟩
noncomputable def b390 (P : Params) : Obj := ⟨(.type "function"), none, (.func (mkFn (stIn 40 10) (S "Walk.end_string") .none .none .none (.str (S "emacs.parse") 653) none (.ref 389) .none)), #[]⟩
noncomputable def b391 (P : Params) : Obj := ⟨(.type "tuple"), none, (.seq #[] 0), #[]⟩
noncomputable def b392 (P : Params) : Obj := ⟨.none, none, (.fields #[]), #[]⟩
noncomputable def b393 (P : Params) : Obj := ⟨(.type "tuple"), none, (.seq #[(.str (S "self") 756), (.str (S "mark") 757), (.str (S "word") 758), (.str (S "limit") 759)] 0), #[]⟩
noncomputable def b394 (P : Params) : Obj := ⟨(.type "tuple"), none, (.seq #[] 0), #[]⟩
noncomputable def b395 (P : Params) : Obj := ⟨.none, none, (.func (mkFn0 (stIn 40 11) (S "Walk.take") .none .none .none .none none .none .none)), #[]⟩
noncomputable def b396 (P : Params) : Obj := ⟨(.type "code"), none, (.fields #[(.str (S "take") 753), (.str (S "Walk.take") 754), (.str (S "/claim/cut.py") 755), (.int (258) 0), (.int (4) 0), (.int (0) 0), (.int (0) 0), (.int (3) 0), (.ref 391), (.bool true), (.int (181) 0), (.ref 392), .none, (.ref 393), (.ref 394), (.ref 395), (.int (760) 0), (.int (258) 0), (.str (S "/claim/cut.py") 761)]), #[]⟩
noncomputable def b397 (P : Params) : Obj := ⟨(.type "function"), none, (.func (mkFn (stIn 40 11) (S "Walk.take") .none .none .none (.str (S "emacs.parse") 653) none (.ref 396) .none)), #[]⟩
noncomputable def b398 (P : Params) : Obj := ⟨(.type "tuple"), none, (.seq #[] 0), #[]⟩
noncomputable def b399 (P : Params) : Obj := ⟨.none, none, (.fields #[]), #[]⟩
noncomputable def b400 (P : Params) : Obj := ⟨(.type "tuple"), none, (.seq #[(.str (S "self") 766), (.str (S "limit") 767), (.str (S "is_fence") 768), (.str (S "mark") 769)] 0), #[]⟩
noncomputable def b401 (P : Params) : Obj := ⟨(.type "tuple"), none, (.seq #[] 0), #[]⟩
noncomputable def b402 (P : Params) : Obj := ⟨.none, none, (.func (mkFn0 (stIn 40 12) (S "Walk.step_in_comment") .none .none .none .none none .none .none)), #[]⟩
noncomputable def b403 (P : Params) : Obj := ⟨(.type "code"), none, (.fields #[(.str (S "step_in_comment") 763), (.str (S "Walk.step_in_comment") 764), (.str (S "/claim/cut.py") 765), (.int (266) 0), (.int (2) 0), (.int (0) 0), (.int (0) 0), (.int (3) 0), (.ref 398), (.bool true), (.int (181) 0), (.ref 399), .none, (.ref 400), (.ref 401), (.ref 402), (.int (770) 0), (.int (266) 0), (.str (S "/claim/cut.py") 771)]), #[]⟩
noncomputable def b404 (P : Params) : Obj := ⟨(.type "function"), none, (.func (mkFn (stIn 40 12) (S "Walk.step_in_comment") .none .none .none (.str (S "emacs.parse") 653) none (.ref 403) .none)), #[]⟩
noncomputable def b405 (P : Params) : Obj := ⟨(.type "tuple"), none, (.seq #[] 0), #[]⟩
noncomputable def b406 (P : Params) : Obj := ⟨.none, none, (.fields #[]), #[]⟩
noncomputable def b407 (P : Params) : Obj := ⟨(.type "tuple"), none, (.seq #[(.str (S "self") 776), (.str (S "code") 777), (.str (S "syntax") 778)] 0), #[]⟩
noncomputable def b408 (P : Params) : Obj := ⟨(.type "tuple"), none, (.seq #[] 0), #[]⟩
noncomputable def b409 (P : Params) : Obj := ⟨.none, none, (.func (mkFn0 (stIn 40 13) (S "Walk.step_in_string") .none .none .none .none none .none .none)), #[]⟩
noncomputable def b410 (P : Params) : Obj := ⟨(.type "code"), none, (.fields #[(.str (S "step_in_string") 773), (.str (S "Walk.step_in_string") 774), (.str (S "/claim/cut.py") 775), (.int (279) 0), (.int (1) 0), (.int (0) 0), (.int (0) 0), (.int (3) 0), (.ref 405), (.bool true), (.int (181) 0), (.ref 406), .none, (.ref 407), (.ref 408), (.ref 409), (.int (779) 0), (.int (279) 0), (.str (S "/claim/cut.py") 780)]), #[]⟩
noncomputable def b411 (P : Params) : Obj := ⟨(.type "function"), none, (.func (mkFn (stIn 40 13) (S "Walk.step_in_string") .none .none .none (.str (S "emacs.parse") 653) none (.ref 410) .none)), #[]⟩
noncomputable def b412 (P : Params) : Obj := ⟨(.type "tuple"), none, (.seq #[] 0), #[]⟩
noncomputable def b413 (P : Params) : Obj := ⟨.none, none, (.fields #[]), #[]⟩
noncomputable def b414 (P : Params) : Obj := ⟨(.type "tuple"), none, (.seq #[(.str (S "self") 785), (.str (S "word") 786)] 0), #[]⟩
noncomputable def b415 (P : Params) : Obj := ⟨(.type "tuple"), none, (.seq #[] 0), #[]⟩
noncomputable def b416 (P : Params) : Obj := ⟨.none, none, (.func (mkFn0 (stIn 40 14) (S "Walk.finish_half") .none .none .none .none none .none .none)), #[]⟩
noncomputable def b417 (P : Params) : Obj := ⟨(.type "code"), none, (.fields #[(.str (S "finish_half") 782), (.str (S "Walk.finish_half") 783), (.str (S "/claim/cut.py") 784), (.int (290) 0), (.int (1) 0), (.int (0) 0), (.int (0) 0), (.int (3) 0), (.ref 412), (.bool true), (.int (181) 0), (.ref 413), .none, (.ref 414), (.ref 415), (.ref 416), (.int (787) 0), (.int (290) 0), (.str (S "/claim/cut.py") 788)]), #[]⟩
noncomputable def b418 (P : Params) : Obj := ⟨(.type "function"), none, (.func (mkFn (stIn 40 14) (S "Walk.finish_half") .none .none .none (.str (S "emacs.parse") 653) none (.ref 417) .none)), #[]⟩
noncomputable def b419 (P : Params) : Obj := ⟨(.type "tuple"), none, (.seq #[] 0), #[]⟩
noncomputable def b420 (P : Params) : Obj := ⟨.none, none, (.fields #[]), #[]⟩
noncomputable def b421 (P : Params) : Obj := ⟨(.type "tuple"), none, (.seq #[(.str (S "self") 793), (.str (S "limit") 794), (.str (S "mark") 795), (.str (S "start") 796), (.str (S "syntax") 797)] 0), #[]⟩
noncomputable def b422 (P : Params) : Obj := ⟨(.type "tuple"), none, (.seq #[] 0), #[]⟩
noncomputable def b423 (P : Params) : Obj := ⟨.none, none, (.func (mkFn0 (stIn 40 15) (S "Walk.step_plain") .none .none .none .none none .none .none)), #[]⟩
noncomputable def b424 (P : Params) : Obj := ⟨(.type "code"), none, (.fields #[(.str (S "step_plain") 790), (.str (S "Walk.step_plain") 791), (.str (S "/claim/cut.py") 792), (.int (301) 0), (.int (2) 0), (.int (0) 0), (.int (0) 0), (.int (3) 0), (.ref 419), (.bool true), (.int (181) 0), (.ref 420), .none, (.ref 421), (.ref 422), (.ref 423), (.int (798) 0), (.int (301) 0), (.str (S "/claim/cut.py") 799)]), #[]⟩
noncomputable def b425 (P : Params) : Obj := ⟨(.type "function"), none, (.func (mkFn (stIn 40 15) (S "Walk.step_plain") .none .none .none (.str (S "emacs.parse") 653) none (.ref 424) .none)), #[]⟩
noncomputable def b426 (P : Params) : Obj := ⟨(.type "tuple"), none, (.seq #[] 0), #[]⟩
noncomputable def b427 (P : Params) : Obj := ⟨.none, none, (.fields #[]), #[]⟩
noncomputable def b428 (P : Params) : Obj := ⟨(.type "tuple"), none, (.seq #[(.str (S "self") 804), (.str (S "syntax") 805)] 0), #[]⟩
noncomputable def b429 (P : Params) : Obj := ⟨(.type "tuple"), none, (.seq #[] 0), #[]⟩
noncomputable def b430 (P : Params) : Obj := ⟨.none, none, (.func (mkFn0 (stIn 40 16) (S "Walk.step_by_kind") .none .none .none .none none .none .none)), #[]⟩
noncomputable def b431 (P : Params) : Obj := ⟨(.type "code"), none, (.fields #[(.str (S "step_by_kind") 801), (.str (S "Walk.step_by_kind") 802), (.str (S "/claim/cut.py") 803), (.int (319) 0), (.int (2) 0), (.int (0) 0), (.int (0) 0), (.int (3) 0), (.ref 426), (.bool true), (.int (181) 0), (.ref 427), .none, (.ref 428), (.ref 429), (.ref 430), (.int (806) 0), (.int (319) 0), (.str (S "/claim/cut.py") 807)]), #[]⟩
noncomputable def b432 (P : Params) : Obj := ⟨(.type "function"), none, (.func (mkFn (stIn 40 16) (S "Walk.step_by_kind") .none .none .none (.str (S "emacs.parse") 653) none (.ref 431) .none)), #[]⟩
noncomputable def b433 (P : Params) : Obj := ⟨(.type "tuple"), none, (.seq #[] 0), #[]⟩
noncomputable def b434 (P : Params) : Obj := ⟨.none, none, (.fields #[]), #[]⟩
noncomputable def b435 (P : Params) : Obj := ⟨(.type "tuple"), none, (.seq #[(.str (S "self") 812), (.str (S "limit") 813)] 0), #[]⟩
noncomputable def b436 (P : Params) : Obj := ⟨(.type "tuple"), none, (.seq #[] 0), #[]⟩
noncomputable def b437 (P : Params) : Obj := ⟨.none, none, (.func (mkFn0 (stIn 40 17) (S "Walk.step") .none .none .none .none none .none .none)), #[]⟩
noncomputable def b438 (P : Params) : Obj := ⟨(.type "code"), none, (.fields #[(.str (S "step") 809), (.str (S "Walk.step") 810), (.str (S "/claim/cut.py") 811), (.int (336) 0), (.int (2) 0), (.int (0) 0), (.int (0) 0), (.int (3) 0), (.ref 433), (.bool true), (.int (181) 0), (.ref 434), .none, (.ref 435), (.ref 436), (.ref 437), (.int (814) 0), (.int (336) 0), (.str (S "/claim/cut.py") 815)]), #[]⟩
noncomputable def b439 (P : Params) : Obj := ⟨(.type "function"), none, (.func (mkFn (stIn 40 17) (S "Walk.step") .none .none .none (.str (S "emacs.parse") 653) none (.ref 438) .none)), #[]⟩
noncomputable def b440 (P : Params) : Obj := ⟨(.type "tuple"), none, (.seq #[(.str (S "below") 817), (.str (S "comment") 818), (.str (S "half") 819), (.str (S "least") 820), (.str (S "nests") 821), (.str (S "opens") 822), (.str (S "place") 823), (.str (S "quoted") 824), (.str (S "start") 825), (.str (S "string") 826), (.str (S "style") 827), (.str (S "table") 828), (.str (S "view") 829), (.str (S "whole") 830), (.str (S "word") 831)] 0), #[]⟩
noncomputable def b441 (P : Params) : Obj := ⟨(.type "dict"), none, (.dict #[⟨H P (S "__module__"), (.str (S "__module__") 662), (.str (S "emacs.parse") 653)⟩, ⟨H P (S "__firstlineno__"), (.str (S "__firstlineno__") 666), (.int (183) 665)⟩, ⟨H P (S "__init__"), (.str (S "__init__") 677), (.ref 320)⟩, ⟨H P (S "state"), (.str (S "state") 685), (.ref 327)⟩, ⟨H P (S "depth"), (.str (S "depth") 692), (.ref 334)⟩, ⟨H P (S "end_word"), (.str (S "end_word") 699), (.ref 341)⟩, ⟨H P (S "begin_word"), (.str (S "begin_word") 706), (.ref 348)⟩, ⟨H P (S "open_at"), (.str (S "open_at") 714), (.ref 355)⟩, ⟨H P (S "close"), (.str (S "close") 721), (.ref 362)⟩, ⟨H P (S "begin_comment"), (.str (S "begin_comment") 730), (.ref 369)⟩, ⟨H P (S "leave_comment"), (.str (S "leave_comment") 737), (.ref 376)⟩, ⟨H P (S "begin_string"), (.str (S "begin_string") 745), (.ref 383)⟩, ⟨H P (S "end_string"), (.str (S "end_string") 752), (.ref 390)⟩, ⟨H P (S "take"), (.str (S "take") 762), (.ref 397)⟩, ⟨H P (S "step_in_comment"), (.str (S "step_in_comment") 772), (.ref 404)⟩, ⟨H P (S "step_in_string"), (.str (S "step_in_string") 781), (.ref 411)⟩, ⟨H P (S "finish_half"), (.str (S "finish_half") 789), (.ref 418)⟩, ⟨H P (S "step_plain"), (.str (S "step_plain") 800), (.ref 425)⟩, ⟨H P (S "step_by_kind"), (.str (S "step_by_kind") 808), (.ref 432)⟩, ⟨H P (S "step"), (.str (S "step") 816), (.ref 439)⟩, ⟨H P (S "__static_attributes__"), (.str (S "__static_attributes__") 832), (.ref 440)⟩, ⟨H P (S "__dict__"), (.str (S "__dict__") 834), (.ref 443)⟩, ⟨H P (S "__weakref__"), (.str (S "__weakref__") 836), (.ref 444)⟩, ⟨H P (S "__doc__"), (.str (S "__doc__") 837), .none⟩] 4), #[]⟩
noncomputable def b442 (P : Params) : Obj := ⟨(.type "type"), none, (.cls { name := (S "Walk"), bases := [(.type "object")], mro := [(.ref 442), (.type "object")], ns := 441, qualname := (S "Walk"), hasDict := true, slotNames := [], subclasses := [], abstract := false, collection := none, hasDel := false }), #[none, none, (some (.str (S "Walk") 655)), (some (.str (S "Walk") 663)), (some (.builtin "object.__new__")), (some (.bool true))]⟩
noncomputable def b443 (P : Params) : Obj := ⟨(.type "getset_descriptor"), none, (.fields #[(.str (S "__dict__") 833), (.ref 442), (.builtin "function.__dict__"), (.builtin "function.__dict__#set")]), #[]⟩
noncomputable def b444 (P : Params) : Obj := ⟨(.type "getset_descriptor"), none, (.fields #[(.str (S "__weakref__") 835), (.ref 442), (.builtin "ExceptionGroup.__weakref__"), .none]), #[]⟩
noncomputable def b445 (P : Params) : Obj := ⟨(.type "super"), none, (.fields #[(.ref 442), (.ref 442), (.ref 442)]), #[]⟩
noncomputable def b446 (P : Params) : Obj := ⟨(.type "builtin_function_or_method"), none, (.fields #[(.builtin "object.__init_subclass__"), (.ref 442)]), #[]⟩
noncomputable def b447 (P : Params) : Obj := ⟨(.type "tuple"), none, (.seq #[] 0), #[]⟩
noncomputable def b448 (P : Params) : Obj := ⟨.none, none, (.fields #[]), #[]⟩
noncomputable def b449 (P : Params) : Obj := ⟨(.type "tuple"), none, (.seq #[(.str (S "view") 845), (.str (S "table") 846), (.str (S "at") 847), (.str (S "walk") 848)] 0), #[]⟩
noncomputable def b450 (P : Params) : Obj := ⟨(.type "tuple"), none, (.seq #[] 0), #[]⟩
noncomputable def b451 (P : Params) : Obj := ⟨.none, none, (.func (mkFn0 (st 42) (S "comment_end") .none .none .none .none none .none .none)), #[]⟩
noncomputable def b452 (P : Params) : Obj := ⟨(.type "code"), none, (.fields #[(.str (S "comment_end") 842), (.str (S "comment_end") 843), (.str (S "/claim/cut.py") 844), (.int (346) 0), (.int (3) 0), (.int (0) 0), (.int (0) 0), (.int (3) 0), (.ref 447), (.bool true), (.int (181) 0), (.ref 448), .none, (.ref 449), (.ref 450), (.ref 451), (.int (849) 0), (.int (346) 0), (.str (S "/claim/cut.py") 850)]), #[]⟩
noncomputable def b453 (P : Params) : Obj := ⟨(.type "function"), none, (.func (mkFn (st 42) (S "comment_end") .none .none .none (.str (S "emacs.comments") 840) none (.ref 452) .none)), #[]⟩
noncomputable def b454 (P : Params) : Obj := ⟨(.type "tuple"), none, (.seq #[] 0), #[]⟩
noncomputable def b455 (P : Params) : Obj := ⟨.none, none, (.fields #[]), #[]⟩
noncomputable def b456 (P : Params) : Obj := ⟨(.type "tuple"), none, (.seq #[(.str (S "view") 855), (.str (S "table") 856), (.str (S "limit") 857), (.str (S "walk") 858), (.str (S "comments") 859), (.str (S "strings") 860), (.str (S "start") 861), (.str (S "comment") 862), (.str (S "string") 863)] 0), #[]⟩
noncomputable def b457 (P : Params) : Obj := ⟨(.type "tuple"), none, (.seq #[] 0), #[]⟩
noncomputable def b458 (P : Params) : Obj := ⟨.none, none, (.func (mkFn0 (st 43) (S "spans_to") .none .none .none .none none .none .none)), #[]⟩
noncomputable def b459 (P : Params) : Obj := ⟨(.type "code"), none, (.fields #[(.str (S "spans_to") 852), (.str (S "spans_to") 853), (.str (S "/claim/cut.py") 854), (.int (354) 0), (.int (3) 0), (.int (0) 0), (.int (0) 0), (.int (3) 0), (.ref 454), (.bool true), (.int (181) 0), (.ref 455), .none, (.ref 456), (.ref 457), (.ref 458), (.int (864) 0), (.int (354) 0), (.str (S "/claim/cut.py") 865)]), #[]⟩
noncomputable def b460 (P : Params) : Obj := ⟨(.type "function"), none, (.func (mkFn (st 43) (S "spans_to") .none .none .none (.str (S "emacs.comments") 840) none (.ref 459) .none)), #[]⟩
noncomputable def b461 (P : Params) : Obj := ⟨(.type "tuple"), none, (.seq #[] 0), #[]⟩
noncomputable def b462 (P : Params) : Obj := ⟨(.type "builtin_function_or_method"), none, (.fields #[(.builtin "type.__prepare__"), (.type "type")]), #[]⟩
noncomputable def b463 (P : Params) : Obj := ⟨(.type "dict"), none, (.dict #[⟨H P (S "__module__"), (.str (S "__module__") 880), (.str (S "emacs.scans") 867)⟩, ⟨H P (S "__qualname__"), (.str (S "__qualname__") 882), (.str (S "Scan") 881)⟩, ⟨H P (S "__firstlineno__"), (.str (S "__firstlineno__") 884), (.int (368) 883)⟩, ⟨H P (S "__init__"), (.str (S "__init__") 896), (.ref 474)⟩, ⟨H P (S "counts"), (.str (S "counts") 903), (.ref 481)⟩, ⟨H P (S "lost"), (.str (S "lost") 910), (.ref 488)⟩, ⟨H P (S "deeper"), (.str (S "deeper") 917), (.ref 495)⟩, ⟨H P (S "shallower"), (.str (S "shallower") 925), (.ref 502)⟩, ⟨H P (S "pair"), (.str (S "pair") 933), (.ref 509)⟩, ⟨H P (S "__static_attributes__"), (.str (S "__static_attributes__") 943), (.ref 510)⟩] 10), #[]⟩
noncomputable def b464 (P : Params) : Obj := ⟨(.type "tuple"), none, (.seq #[] 0), #[]⟩
noncomputable def b465 (P : Params) : Obj := ⟨.none, none, (.fields #[(.int (370) 0), (.int (4) 0), (.ref 473), (.int (381) 0), (.int (4) 0), (.ref 480), (.int (384) 0), (.int (4) 0), (.ref 487), (.int (387) 0), (.int (4) 0), (.ref 494), (.int (391) 0), (.int (4) 0), (.ref 501), (.int (397) 0), (.int (4) 0), (.ref 508)]), #[]⟩
noncomputable def b466 (P : Params) : Obj := ⟨(.type "code"), none, (.fields #[(.str (S "Scan") 875), (.str (S "Scan") 876), (.str (S "/claim/cut.py") 877), (.int (368) 0), (.int (0) 0), (.int (0) 0), (.int (0) 0), (.int (0) 0), (.ref 464), (.bool false), (.int (181) 0), (.ref 465), .none, .none, .none, .none, (.int (878) 0), (.int (368) 0), (.str (S "/claim/cut.py") 879)]), #[]⟩
noncomputable def b467 (P : Params) : Obj := ⟨(.type "frame"), none, .plain, #[(some (.ref 466)), (some (.ref 3)), (some (.ref 463)), none, (some (.str (S "emacs.scans") 867)), none, (some (.ref 0))]⟩
noncomputable def b468 (P : Params) : Obj := ⟨(.type "tuple"), none, (.seq #[] 0), #[]⟩
noncomputable def b469 (P : Params) : Obj := ⟨.none, none, (.fields #[]), #[]⟩
noncomputable def b470 (P : Params) : Obj := ⟨(.type "tuple"), none, (.seq #[(.str (S "self") 888), (.str (S "view") 889), (.str (S "table") 890), (.str (S "place") 891), (.str (S "depth") 892), (.str (S "is_expression") 893)] 0), #[]⟩
noncomputable def b471 (P : Params) : Obj := ⟨(.type "tuple"), none, (.seq #[] 0), #[]⟩
noncomputable def b472 (P : Params) : Obj := ⟨.none, none, (.func (mkFn0 (stIn 47 0) (S "Scan.__init__") .none .none .none .none none .none .none)), #[]⟩
noncomputable def b473 (P : Params) : Obj := ⟨(.type "code"), none, (.fields #[(.str (S "__init__") 885), (.str (S "Scan.__init__") 886), (.str (S "/claim/cut.py") 887), (.int (370) 0), (.int (6) 0), (.int (0) 0), (.int (0) 0), (.int (3) 0), (.ref 468), (.bool true), (.int (181) 0), (.ref 469), .none, (.ref 470), (.ref 471), (.ref 472), (.int (894) 0), (.int (370) 0), (.str (S "/claim/cut.py") 895)]), #[]⟩
noncomputable def b474 (P : Params) : Obj := ⟨(.type "function"), none, (.func (mkFn (stIn 47 0) (S "Scan.__init__") .none .none .none (.str (S "emacs.scans") 867) none (.ref 473) .none)), #[]⟩
noncomputable def b475 (P : Params) : Obj := ⟨(.type "tuple"), none, (.seq #[] 0), #[]⟩
noncomputable def b476 (P : Params) : Obj := ⟨.none, none, (.fields #[]), #[]⟩
noncomputable def b477 (P : Params) : Obj := ⟨(.type "tuple"), none, (.seq #[(.str (S "self") 900)] 0), #[]⟩
noncomputable def b478 (P : Params) : Obj := ⟨(.type "tuple"), none, (.seq #[] 0), #[]⟩
noncomputable def b479 (P : Params) : Obj := ⟨.none, none, (.func (mkFn0 (stIn 47 1) (S "Scan.counts") .none .none .none .none none .none .none)), #[]⟩
noncomputable def b480 (P : Params) : Obj := ⟨(.type "code"), none, (.fields #[(.str (S "counts") 897), (.str (S "Scan.counts") 898), (.str (S "/claim/cut.py") 899), (.int (381) 0), (.int (1) 0), (.int (0) 0), (.int (0) 0), (.int (3) 0), (.ref 475), (.bool true), (.int (181) 0), (.ref 476), .none, (.ref 477), (.ref 478), (.ref 479), (.int (901) 0), (.int (381) 0), (.str (S "/claim/cut.py") 902)]), #[]⟩
noncomputable def b481 (P : Params) : Obj := ⟨(.type "function"), none, (.func (mkFn (stIn 47 1) (S "Scan.counts") .none .none .none (.str (S "emacs.scans") 867) none (.ref 480) .none)), #[]⟩
noncomputable def b482 (P : Params) : Obj := ⟨(.type "tuple"), none, (.seq #[] 0), #[]⟩
noncomputable def b483 (P : Params) : Obj := ⟨.none, none, (.fields #[]), #[]⟩
noncomputable def b484 (P : Params) : Obj := ⟨(.type "tuple"), none, (.seq #[(.str (S "self") 907)] 0), #[]⟩
noncomputable def b485 (P : Params) : Obj := ⟨(.type "tuple"), none, (.seq #[] 0), #[]⟩
noncomputable def b486 (P : Params) : Obj := ⟨.none, none, (.func (mkFn0 (stIn 47 2) (S "Scan.lost") .none .none .none .none none .none .none)), #[]⟩
noncomputable def b487 (P : Params) : Obj := ⟨(.type "code"), none, (.fields #[(.str (S "lost") 904), (.str (S "Scan.lost") 905), (.str (S "/claim/cut.py") 906), (.int (384) 0), (.int (1) 0), (.int (0) 0), (.int (0) 0), (.int (3) 0), (.ref 482), (.bool true), (.int (181) 0), (.ref 483), .none, (.ref 484), (.ref 485), (.ref 486), (.int (908) 0), (.int (384) 0), (.str (S "/claim/cut.py") 909)]), #[]⟩
noncomputable def b488 (P : Params) : Obj := ⟨(.type "function"), none, (.func (mkFn (stIn 47 2) (S "Scan.lost") .none .none .none (.str (S "emacs.scans") 867) none (.ref 487) .none)), #[]⟩
noncomputable def b489 (P : Params) : Obj := ⟨(.type "tuple"), none, (.seq #[] 0), #[]⟩
noncomputable def b490 (P : Params) : Obj := ⟨.none, none, (.fields #[]), #[]⟩
noncomputable def b491 (P : Params) : Obj := ⟨(.type "tuple"), none, (.seq #[(.str (S "self") 914)] 0), #[]⟩
noncomputable def b492 (P : Params) : Obj := ⟨(.type "tuple"), none, (.seq #[] 0), #[]⟩
noncomputable def b493 (P : Params) : Obj := ⟨.none, none, (.func (mkFn0 (stIn 47 3) (S "Scan.deeper") .none .none .none .none none .none .none)), #[]⟩
noncomputable def b494 (P : Params) : Obj := ⟨(.type "code"), none, (.fields #[(.str (S "deeper") 911), (.str (S "Scan.deeper") 912), (.str (S "/claim/cut.py") 913), (.int (387) 0), (.int (1) 0), (.int (0) 0), (.int (0) 0), (.int (3) 0), (.ref 489), (.bool true), (.int (181) 0), (.ref 490), .none, (.ref 491), (.ref 492), (.ref 493), (.int (915) 0), (.int (387) 0), (.str (S "/claim/cut.py") 916)]), #[]⟩
noncomputable def b495 (P : Params) : Obj := ⟨(.type "function"), none, (.func (mkFn (stIn 47 3) (S "Scan.deeper") .none .none .none (.str (S "emacs.scans") 867) none (.ref 494) .none)), #[]⟩
noncomputable def b496 (P : Params) : Obj := ⟨(.type "tuple"), none, (.seq #[] 0), #[]⟩
noncomputable def b497 (P : Params) : Obj := ⟨.none, none, (.fields #[]), #[]⟩
noncomputable def b498 (P : Params) : Obj := ⟨(.type "tuple"), none, (.seq #[(.str (S "self") 921), (.str (S "end") 922)] 0), #[]⟩
noncomputable def b499 (P : Params) : Obj := ⟨(.type "tuple"), none, (.seq #[] 0), #[]⟩
noncomputable def b500 (P : Params) : Obj := ⟨.none, none, (.func (mkFn0 (stIn 47 4) (S "Scan.shallower") .none .none .none .none none .none .none)), #[]⟩
noncomputable def b501 (P : Params) : Obj := ⟨(.type "code"), none, (.fields #[(.str (S "shallower") 918), (.str (S "Scan.shallower") 919), (.str (S "/claim/cut.py") 920), (.int (391) 0), (.int (2) 0), (.int (0) 0), (.int (0) 0), (.int (3) 0), (.ref 496), (.bool true), (.int (181) 0), (.ref 497), .none, (.ref 498), (.ref 499), (.ref 500), (.int (923) 0), (.int (391) 0), (.str (S "/claim/cut.py") 924)]), #[]⟩
noncomputable def b502 (P : Params) : Obj := ⟨(.type "function"), none, (.func (mkFn (stIn 47 4) (S "Scan.shallower") .none .none .none (.str (S "emacs.scans") 867) none (.ref 501) .none)), #[]⟩
noncomputable def b503 (P : Params) : Obj := ⟨(.type "tuple"), none, (.seq #[] 0), #[]⟩
noncomputable def b504 (P : Params) : Obj := ⟨.none, none, (.fields #[]), #[]⟩
noncomputable def b505 (P : Params) : Obj := ⟨(.type "tuple"), none, (.seq #[(.str (S "self") 929), (.str (S "end") 930)] 0), #[]⟩
noncomputable def b506 (P : Params) : Obj := ⟨(.type "tuple"), none, (.seq #[] 0), #[]⟩
noncomputable def b507 (P : Params) : Obj := ⟨.none, none, (.func (mkFn0 (stIn 47 5) (S "Scan.pair") .none .none .none .none none .none .none)), #[]⟩
noncomputable def b508 (P : Params) : Obj := ⟨(.type "code"), none, (.fields #[(.str (S "pair") 926), (.str (S "Scan.pair") 927), (.str (S "/claim/cut.py") 928), (.int (397) 0), (.int (2) 0), (.int (0) 0), (.int (0) 0), (.int (3) 0), (.ref 503), (.bool true), (.int (181) 0), (.ref 504), .none, (.ref 505), (.ref 506), (.ref 507), (.int (931) 0), (.int (397) 0), (.str (S "/claim/cut.py") 932)]), #[]⟩
noncomputable def b509 (P : Params) : Obj := ⟨(.type "function"), none, (.func (mkFn (stIn 47 5) (S "Scan.pair") .none .none .none (.str (S "emacs.scans") 867) none (.ref 508) .none)), #[]⟩
noncomputable def b510 (P : Params) : Obj := ⟨(.type "tuple"), none, (.seq #[(.str (S "depth") 934), (.str (S "good") 935), (.str (S "is_done") 936), (.str (S "is_expression") 937), (.str (S "is_paired") 938), (.str (S "least") 939), (.str (S "place") 940), (.str (S "table") 941), (.str (S "view") 942)] 0), #[]⟩
noncomputable def b511 (P : Params) : Obj := ⟨(.type "dict"), none, (.dict #[⟨H P (S "__module__"), (.str (S "__module__") 880), (.str (S "emacs.scans") 867)⟩, ⟨H P (S "__firstlineno__"), (.str (S "__firstlineno__") 884), (.int (368) 883)⟩, ⟨H P (S "__init__"), (.str (S "__init__") 896), (.ref 474)⟩, ⟨H P (S "counts"), (.str (S "counts") 903), (.ref 481)⟩, ⟨H P (S "lost"), (.str (S "lost") 910), (.ref 488)⟩, ⟨H P (S "deeper"), (.str (S "deeper") 917), (.ref 495)⟩, ⟨H P (S "shallower"), (.str (S "shallower") 925), (.ref 502)⟩, ⟨H P (S "pair"), (.str (S "pair") 933), (.ref 509)⟩, ⟨H P (S "__static_attributes__"), (.str (S "__static_attributes__") 943), (.ref 510)⟩, ⟨H P (S "__dict__"), (.str (S "__dict__") 945), (.ref 513)⟩, ⟨H P (S "__weakref__"), (.str (S "__weakref__") 947), (.ref 514)⟩, ⟨H P (S "__doc__"), (.str (S "__doc__") 948), .none⟩] 4), #[]⟩
noncomputable def b512 (P : Params) : Obj := ⟨(.type "type"), none, (.cls { name := (S "Scan"), bases := [(.type "object")], mro := [(.ref 512), (.type "object")], ns := 511, qualname := (S "Scan"), hasDict := true, slotNames := [], subclasses := [], abstract := false, collection := none, hasDel := false }), #[none, none, (some (.str (S "Scan") 873)), (some (.str (S "Scan") 881)), (some (.builtin "object.__new__")), (some (.bool true))]⟩
noncomputable def b513 (P : Params) : Obj := ⟨(.type "getset_descriptor"), none, (.fields #[(.str (S "__dict__") 944), (.ref 512), (.builtin "function.__dict__"), (.builtin "function.__dict__#set")]), #[]⟩
noncomputable def b514 (P : Params) : Obj := ⟨(.type "getset_descriptor"), none, (.fields #[(.str (S "__weakref__") 946), (.ref 512), (.builtin "ExceptionGroup.__weakref__"), .none]), #[]⟩
noncomputable def b515 (P : Params) : Obj := ⟨(.type "super"), none, (.fields #[(.ref 512), (.ref 512), (.ref 512)]), #[]⟩
noncomputable def b516 (P : Params) : Obj := ⟨(.type "builtin_function_or_method"), none, (.fields #[(.builtin "object.__init_subclass__"), (.ref 512)]), #[]⟩
noncomputable def b517 (P : Params) : Obj := ⟨(.type "tuple"), none, (.seq #[] 0), #[]⟩
noncomputable def b518 (P : Params) : Obj := ⟨.none, none, (.fields #[]), #[]⟩
noncomputable def b519 (P : Params) : Obj := ⟨(.type "tuple"), none, (.seq #[(.str (S "view") 954), (.str (S "table") 955), (.str (S "place") 956), (.str (S "begin") 957), (.str (S "code") 958), (.str (S "at") 959), (.str (S "syntax") 960)] 0), #[]⟩
noncomputable def b520 (P : Params) : Obj := ⟨(.type "tuple"), none, (.seq #[] 0), #[]⟩
noncomputable def b521 (P : Params) : Obj := ⟨.none, none, (.func (mkFn0 (st 48) (S "string_end") .none .none .none .none none .none .none)), #[]⟩
noncomputable def b522 (P : Params) : Obj := ⟨(.type "code"), none, (.fields #[(.str (S "string_end") 951), (.str (S "string_end") 952), (.str (S "/claim/cut.py") 953), (.int (404) 0), (.int (3) 0), (.int (0) 0), (.int (0) 0), (.int (3) 0), (.ref 517), (.bool true), (.int (181) 0), (.ref 518), .none, (.ref 519), (.ref 520), (.ref 521), (.int (961) 0), (.int (404) 0), (.str (S "/claim/cut.py") 962)]), #[]⟩
noncomputable def b523 (P : Params) : Obj := ⟨(.type "function"), none, (.func (mkFn (st 48) (S "string_end") .none .none .none (.str (S "emacs.scans") 867) none (.ref 522) .none)), #[]⟩
noncomputable def b524 (P : Params) : Obj := ⟨(.type "tuple"), none, (.seq #[] 0), #[]⟩
noncomputable def b525 (P : Params) : Obj := ⟨.none, none, (.fields #[]), #[]⟩
noncomputable def b526 (P : Params) : Obj := ⟨(.type "tuple"), none, (.seq #[(.str (S "scan") 967), (.str (S "view") 968), (.str (S "table") 969), (.str (S "syntax") 970)] 0), #[]⟩
noncomputable def b527 (P : Params) : Obj := ⟨(.type "tuple"), none, (.seq #[] 0), #[]⟩
noncomputable def b528 (P : Params) : Obj := ⟨.none, none, (.func (mkFn0 (st 49) (S "word_end") .none .none .none .none none .none .none)), #[]⟩
noncomputable def b529 (P : Params) : Obj := ⟨(.type "code"), none, (.fields #[(.str (S "word_end") 964), (.str (S "word_end") 965), (.str (S "/claim/cut.py") 966), (.int (414) 0), (.int (1) 0), (.int (0) 0), (.int (0) 0), (.int (3) 0), (.ref 524), (.bool true), (.int (181) 0), (.ref 525), .none, (.ref 526), (.ref 527), (.ref 528), (.int (971) 0), (.int (414) 0), (.str (S "/claim/cut.py") 972)]), #[]⟩
noncomputable def b530 (P : Params) : Obj := ⟨(.type "function"), none, (.func (mkFn (st 49) (S "word_end") .none .none .none (.str (S "emacs.scans") 867) none (.ref 529) .none)), #[]⟩
noncomputable def b531 (P : Params) : Obj := ⟨(.type "tuple"), none, (.seq #[] 0), #[]⟩
noncomputable def b532 (P : Params) : Obj := ⟨.none, none, (.fields #[]), #[]⟩
noncomputable def b533 (P : Params) : Obj := ⟨(.type "tuple"), none, (.seq #[(.str (S "scan") 977), (.str (S "view") 978), (.str (S "table") 979), (.str (S "end") 980), (.str (S "syntax") 981)] 0), #[]⟩
noncomputable def b534 (P : Params) : Obj := ⟨(.type "tuple"), none, (.seq #[] 0), #[]⟩
noncomputable def b535 (P : Params) : Obj := ⟨.none, none, (.func (mkFn0 (st 50) (S "step_forward") .none .none .none .none none .none .none)), #[]⟩
noncomputable def b536 (P : Params) : Obj := ⟨(.type "code"), none, (.fields #[(.str (S "step_forward") 974), (.str (S "step_forward") 975), (.str (S "/claim/cut.py") 976), (.int (425) 0), (.int (1) 0), (.int (0) 0), (.int (0) 0), (.int (3) 0), (.ref 531), (.bool true), (.int (181) 0), (.ref 532), .none, (.ref 533), (.ref 534), (.ref 535), (.int (982) 0), (.int (425) 0), (.str (S "/claim/cut.py") 983)]), #[]⟩
noncomputable def b537 (P : Params) : Obj := ⟨(.type "function"), none, (.func (mkFn (st 50) (S "step_forward") .none .none .none (.str (S "emacs.scans") 867) none (.ref 536) .none)), #[]⟩
noncomputable def b538 (P : Params) : Obj := ⟨(.type "tuple"), none, (.seq #[] 0), #[]⟩
noncomputable def b539 (P : Params) : Obj := ⟨.none, none, (.fields #[]), #[]⟩
noncomputable def b540 (P : Params) : Obj := ⟨(.type "tuple"), none, (.seq #[(.str (S "scan") 988), (.str (S "kind") 989), (.str (S "opens") 990), (.str (S "closes") 991)] 0), #[]⟩
noncomputable def b541 (P : Params) : Obj := ⟨(.type "tuple"), none, (.seq #[] 0), #[]⟩
noncomputable def b542 (P : Params) : Obj := ⟨.none, none, (.func (mkFn0 (st 51) (S "take_kind") .none .none .none .none none .none .none)), #[]⟩
noncomputable def b543 (P : Params) : Obj := ⟨(.type "code"), none, (.fields #[(.str (S "take_kind") 985), (.str (S "take_kind") 986), (.str (S "/claim/cut.py") 987), (.int (451) 0), (.int (4) 0), (.int (0) 0), (.int (0) 0), (.int (3) 0), (.ref 538), (.bool true), (.int (181) 0), (.ref 539), .none, (.ref 540), (.ref 541), (.ref 542), (.int (992) 0), (.int (451) 0), (.str (S "/claim/cut.py") 993)]), #[]⟩
noncomputable def b544 (P : Params) : Obj := ⟨(.type "function"), none, (.func (mkFn (st 51) (S "take_kind") .none .none .none (.str (S "emacs.scans") 867) none (.ref 543) .none)), #[]⟩
noncomputable def b545 (P : Params) : Obj := ⟨(.type "tuple"), none, (.seq #[] 0), #[]⟩
noncomputable def b546 (P : Params) : Obj := ⟨.none, none, (.fields #[]), #[]⟩
noncomputable def b547 (P : Params) : Obj := ⟨(.type "tuple"), none, (.seq #[(.str (S "view") 998), (.str (S "table") 999), (.str (S "at") 1000), (.str (S "depth") 1001), (.str (S "is_expression") 1002), (.str (S "scan") 1003)] 0), #[]⟩
noncomputable def b548 (P : Params) : Obj := ⟨(.type "tuple"), none, (.seq #[] 0), #[]⟩
noncomputable def b549 (P : Params) : Obj := ⟨.none, none, (.func (mkFn0 (st 52) (S "forward_one") .none .none .none .none none .none .none)), #[]⟩
noncomputable def b550 (P : Params) : Obj := ⟨(.type "code"), none, (.fields #[(.str (S "forward_one") 995), (.str (S "forward_one") 996), (.str (S "/claim/cut.py") 997), (.int (458) 0), (.int (5) 0), (.int (0) 0), (.int (0) 0), (.int (3) 0), (.ref 545), (.bool true), (.int (181) 0), (.ref 546), .none, (.ref 547), (.ref 548), (.ref 549), (.int (1004) 0), (.int (458) 0), (.str (S "/claim/cut.py") 1005)]), #[]⟩
noncomputable def b551 (P : Params) : Obj := ⟨(.type "function"), none, (.func (mkFn (st 52) (S "forward_one") .none .none .none (.str (S "emacs.scans") 867) none (.ref 550) .none)), #[]⟩
noncomputable def b552 (P : Params) : Obj := ⟨(.type "tuple"), none, (.seq #[] 0), #[]⟩
noncomputable def b553 (P : Params) : Obj := ⟨.none, none, (.fields #[]), #[]⟩
noncomputable def b554 (P : Params) : Obj := ⟨(.type "tuple"), none, (.seq #[(.str (S "view") 1010), (.str (S "table") 1011), (.str (S "place") 1012), (.str (S "end") 1013), (.str (S "at") 1014), (.str (S "syntax") 1015), (.str (S "is_alike") 1016)] 0), #[]⟩
noncomputable def b555 (P : Params) : Obj := ⟨(.type "tuple"), none, (.seq #[] 0), #[]⟩
noncomputable def b556 (P : Params) : Obj := ⟨.none, none, (.func (mkFn0 (st 53) (S "string_begin") .none .none .none .none none .none .none)), #[]⟩
noncomputable def b557 (P : Params) : Obj := ⟨(.type "code"), none, (.fields #[(.str (S "string_begin") 1007), (.str (S "string_begin") 1008), (.str (S "/claim/cut.py") 1009), (.int (469) 0), (.int (3) 0), (.int (0) 0), (.int (0) 0), (.int (3) 0), (.ref 552), (.bool true), (.int (181) 0), (.ref 553), .none, (.ref 554), (.ref 555), (.ref 556), (.int (1017) 0), (.int (469) 0), (.str (S "/claim/cut.py") 1018)]), #[]⟩
noncomputable def b558 (P : Params) : Obj := ⟨(.type "function"), none, (.func (mkFn (st 53) (S "string_begin") .none .none .none (.str (S "emacs.scans") 867) none (.ref 557) .none)), #[]⟩
noncomputable def b559 (P : Params) : Obj := ⟨(.type "tuple"), none, (.seq #[] 0), #[]⟩
noncomputable def b560 (P : Params) : Obj := ⟨.none, none, (.fields #[]), #[]⟩
noncomputable def b561 (P : Params) : Obj := ⟨(.type "tuple"), none, (.seq #[(.str (S "scan") 1023), (.str (S "comments") 1024), (.str (S "view") 1025), (.str (S "table") 1026), (.str (S "syntax") 1027)] 0), #[]⟩
noncomputable def b562 (P : Params) : Obj := ⟨(.type "tuple"), none, (.seq #[] 0), #[]⟩
noncomputable def b563 (P : Params) : Obj := ⟨.none, none, (.func (mkFn0 (st 54) (S "word_begin") .none .none .none .none none .none .none)), #[]⟩
noncomputable def b564 (P : Params) : Obj := ⟨(.type "code"), none, (.fields #[(.str (S "word_begin") 1020), (.str (S "word_begin") 1021), (.str (S "/claim/cut.py") 1022), (.int (479) 0), (.int (2) 0), (.int (0) 0), (.int (0) 0), (.int (3) 0), (.ref 559), (.bool true), (.int (181) 0), (.ref 560), .none, (.ref 561), (.ref 562), (.ref 563), (.int (1028) 0), (.int (479) 0), (.str (S "/claim/cut.py") 1029)]), #[]⟩
noncomputable def b565 (P : Params) : Obj := ⟨(.type "function"), none, (.func (mkFn (st 54) (S "word_begin") .none .none .none (.str (S "emacs.scans") 867) none (.ref 564) .none)), #[]⟩
noncomputable def b566 (P : Params) : Obj := ⟨(.type "tuple"), none, (.seq #[] 0), #[]⟩
noncomputable def b567 (P : Params) : Obj := ⟨.none, none, (.fields #[]), #[]⟩
noncomputable def b568 (P : Params) : Obj := ⟨(.type "tuple"), none, (.seq #[(.str (S "scan") 1034), (.str (S "comments") 1035), (.str (S "strings") 1036), (.str (S "view") 1037), (.str (S "table") 1038), (.str (S "syntax") 1039), (.str (S "quoted") 1040), (.str (S "begin") 1041)] 0), #[]⟩
noncomputable def b569 (P : Params) : Obj := ⟨(.type "tuple"), none, (.seq #[] 0), #[]⟩
noncomputable def b570 (P : Params) : Obj := ⟨.none, none, (.func (mkFn0 (st 55) (S "step_backward") .none .none .none .none none .none .none)), #[]⟩
noncomputable def b571 (P : Params) : Obj := ⟨(.type "code"), none, (.fields #[(.str (S "step_backward") 1031), (.str (S "step_backward") 1032), (.str (S "/claim/cut.py") 1033), (.int (489) 0), (.int (3) 0), (.int (0) 0), (.int (0) 0), (.int (3) 0), (.ref 566), (.bool true), (.int (181) 0), (.ref 567), .none, (.ref 568), (.ref 569), (.ref 570), (.int (1042) 0), (.int (489) 0), (.str (S "/claim/cut.py") 1043)]), #[]⟩
noncomputable def b572 (P : Params) : Obj := ⟨(.type "function"), none, (.func (mkFn (st 55) (S "step_backward") .none .none .none (.str (S "emacs.scans") 867) none (.ref 571) .none)), #[]⟩
noncomputable def b573 (P : Params) : Obj := ⟨(.type "tuple"), none, (.seq #[] 0), #[]⟩
noncomputable def b574 (P : Params) : Obj := ⟨.none, none, (.fields #[]), #[]⟩
noncomputable def b575 (P : Params) : Obj := ⟨(.type "tuple"), none, (.seq #[(.str (S "view") 1048), (.str (S "table") 1049), (.str (S "at") 1050), (.str (S "depth") 1051), (.str (S "is_expression") 1052), (.str (S "comments") 1053), (.str (S "strings") 1054), (.str (S "scan") 1055)] 0), #[]⟩
noncomputable def b576 (P : Params) : Obj := ⟨(.type "tuple"), none, (.seq #[] 0), #[]⟩
noncomputable def b577 (P : Params) : Obj := ⟨.none, none, (.func (mkFn0 (st 56) (S "backward_one") .none .none .none .none none .none .none)), #[]⟩
noncomputable def b578 (P : Params) : Obj := ⟨(.type "code"), none, (.fields #[(.str (S "backward_one") 1045), (.str (S "backward_one") 1046), (.str (S "/claim/cut.py") 1047), (.int (515) 0), (.int (5) 0), (.int (0) 0), (.int (0) 0), (.int (3) 0), (.ref 573), (.bool true), (.int (181) 0), (.ref 574), .none, (.ref 575), (.ref 576), (.ref 577), (.int (1056) 0), (.int (515) 0), (.str (S "/claim/cut.py") 1057)]), #[]⟩
noncomputable def b579 (P : Params) : Obj := ⟨(.type "function"), none, (.func (mkFn (st 56) (S "backward_one") .none .none .none (.str (S "emacs.scans") 867) none (.ref 578) .none)), #[]⟩
noncomputable def b580 (P : Params) : Obj := ⟨(.type "tuple"), none, (.seq #[] 0), #[]⟩
noncomputable def b581 (P : Params) : Obj := ⟨.none, none, (.fields #[]), #[]⟩
noncomputable def b582 (P : Params) : Obj := ⟨(.type "tuple"), none, (.seq #[(.str (S "view") 1062), (.str (S "table") 1063), (.str (S "at") 1064), (.str (S "count") 1065), (.str (S "depth") 1066), (.str (S "is_expression") 1067)] 0), #[]⟩
noncomputable def b583 (P : Params) : Obj := ⟨(.type "tuple"), none, (.seq #[] 0), #[]⟩
noncomputable def b584 (P : Params) : Obj := ⟨.none, none, (.func (mkFn0 (st 57) (S "scan_by") .none .none .none .none none .none .none)), #[]⟩
noncomputable def b585 (P : Params) : Obj := ⟨(.type "code"), none, (.fields #[(.str (S "scan_by") 1059), (.str (S "scan_by") 1060), (.str (S "/claim/cut.py") 1061), (.int (527) 0), (.int (6) 0), (.int (0) 0), (.int (0) 0), (.int (3) 0), (.ref 580), (.bool true), (.int (181) 0), (.ref 581), .none, (.ref 582), (.ref 583), (.ref 584), (.int (1068) 0), (.int (527) 0), (.str (S "/claim/cut.py") 1069)]), #[]⟩
noncomputable def b586 (P : Params) : Obj := ⟨(.type "function"), none, (.func (mkFn (st 57) (S "scan_by") .none .none .none (.str (S "emacs.scans") 867) none (.ref 585) .none)), #[]⟩
noncomputable def b587 (P : Params) : Obj := ⟨(.type "tuple"), none, (.seq #[] 0), #[]⟩
noncomputable def b588 (P : Params) : Obj := ⟨.none, none, (.fields #[]), #[]⟩
noncomputable def b589 (P : Params) : Obj := ⟨(.type "tuple"), none, (.seq #[(.str (S "view") 1074), (.str (S "table") 1075), (.str (S "at") 1076), (.str (S "count") 1077), (.str (S "depth") 1078)] 0), #[]⟩
noncomputable def b590 (P : Params) : Obj := ⟨(.type "tuple"), none, (.seq #[] 0), #[]⟩
noncomputable def b591 (P : Params) : Obj := ⟨.none, none, (.func (mkFn0 (st 58) (S "scan_lists") .none .none .none .none none .none .none)), #[]⟩
noncomputable def b592 (P : Params) : Obj := ⟨(.type "code"), none, (.fields #[(.str (S "scan_lists") 1071), (.str (S "scan_lists") 1072), (.str (S "/claim/cut.py") 1073), (.int (537) 0), (.int (5) 0), (.int (0) 0), (.int (0) 0), (.int (3) 0), (.ref 587), (.bool true), (.int (181) 0), (.ref 588), .none, (.ref 589), (.ref 590), (.ref 591), (.int (1079) 0), (.int (537) 0), (.str (S "/claim/cut.py") 1080)]), #[]⟩
noncomputable def b593 (P : Params) : Obj := ⟨(.type "function"), none, (.func (mkFn (st 58) (S "scan_lists") .none .none .none (.str (S "emacs.scans") 867) none (.ref 592) .none)), #[]⟩
noncomputable def b594 (P : Params) : Obj := ⟨(.type "tuple"), none, (.seq #[] 0), #[]⟩
noncomputable def b595 (P : Params) : Obj := ⟨.none, none, (.fields #[]), #[]⟩
noncomputable def b596 (P : Params) : Obj := ⟨(.type "tuple"), none, (.seq #[(.str (S "view") 1085), (.str (S "table") 1086), (.str (S "at") 1087), (.str (S "count") 1088)] 0), #[]⟩
noncomputable def b597 (P : Params) : Obj := ⟨(.type "tuple"), none, (.seq #[] 0), #[]⟩
noncomputable def b598 (P : Params) : Obj := ⟨.none, none, (.func (mkFn0 (st 59) (S "scan_sexps") .none .none .none .none none .none .none)), #[]⟩
noncomputable def b599 (P : Params) : Obj := ⟨(.type "code"), none, (.fields #[(.str (S "scan_sexps") 1082), (.str (S "scan_sexps") 1083), (.str (S "/claim/cut.py") 1084), (.int (539) 0), (.int (4) 0), (.int (0) 0), (.int (0) 0), (.int (3) 0), (.ref 594), (.bool true), (.int (181) 0), (.ref 595), .none, (.ref 596), (.ref 597), (.ref 598), (.int (1089) 0), (.int (539) 0), (.str (S "/claim/cut.py") 1090)]), #[]⟩
noncomputable def b600 (P : Params) : Obj := ⟨(.type "function"), none, (.func (mkFn (st 59) (S "scan_sexps") .none .none .none (.str (S "emacs.scans") 867) none (.ref 599) .none)), #[]⟩
noncomputable def b601 (P : Params) : Obj := ⟨(.type "tuple"), none, (.seq #[] 0), #[]⟩
noncomputable def b602 (P : Params) : Obj := ⟨(.type "builtin_function_or_method"), none, (.fields #[(.builtin "type.__prepare__"), (.type "type")]), #[]⟩
noncomputable def b603 (P : Params) : Obj := ⟨(.type "dict"), none, (.dict #[⟨H P (S "__module__"), (.str (S "__module__") 1101), (.str (S "emacs.textrow") 1092)⟩, ⟨H P (S "__qualname__"), (.str (S "__qualname__") 1103), (.str (S "TextRow") 1102)⟩, ⟨H P (S "__firstlineno__"), (.str (S "__firstlineno__") 1105), (.int (542) 1104)⟩, ⟨H P (S "__init__"), (.str (S "__init__") 1115), (.ref 615)⟩, ⟨H P (S "begin"), (.str (S "begin") 1122), (.ref 622)⟩, ⟨H P (S "end"), (.str (S "end") 1129), (.ref 629)⟩, ⟨H P (S "code_at"), (.str (S "code_at") 1137), (.ref 636)⟩, ⟨H P (S "__static_attributes__"), (.str (S "__static_attributes__") 1140), (.ref 637)⟩] 8), #[]⟩
noncomputable def b604 (P : Params) : Obj := ⟨(.type "tuple"), none, (.seq #[] 0), #[]⟩
noncomputable def b605 (P : Params) : Obj := ⟨.none, none, (.fields #[(.int (544) 0), (.int (4) 0), (.ref 614), (.int (548) 0), (.int (4) 0), (.ref 621), (.int (551) 0), (.int (4) 0), (.ref 628), (.int (554) 0), (.int (4) 0), (.ref 635)]), #[]⟩
noncomputable def b606 (P : Params) : Obj := ⟨(.type "code"), none, (.fields #[(.str (S "TextRow") 1096), (.str (S "TextRow") 1097), (.str (S "/claim/cut.py") 1098), (.int (542) 0), (.int (0) 0), (.int (0) 0), (.int (0) 0), (.int (0) 0), (.ref 604), (.bool false), (.int (181) 0), (.ref 605), .none, .none, .none, .none, (.int (1099) 0), (.int (542) 0), (.str (S "/claim/cut.py") 1100)]), #[]⟩
noncomputable def b607 (P : Params) : Obj := ⟨(.type "frame"), none, .plain, #[(some (.ref 606)), (some (.ref 3)), (some (.ref 603)), none, (some (.str (S "emacs.textrow") 1092)), none, (some (.ref 0))]⟩
noncomputable def b608 (P : Params) : Obj := ⟨(.type "tuple"), none, (.seq #[(.int (1) 1106)] 0), #[]⟩
noncomputable def b609 (P : Params) : Obj := ⟨(.type "tuple"), none, (.seq #[] 0), #[]⟩
noncomputable def b610 (P : Params) : Obj := ⟨.none, none, (.fields #[]), #[]⟩
noncomputable def b611 (P : Params) : Obj := ⟨(.type "tuple"), none, (.seq #[(.str (S "self") 1110), (.str (S "codes") 1111), (.str (S "place") 1112)] 0), #[]⟩
noncomputable def b612 (P : Params) : Obj := ⟨(.type "tuple"), none, (.seq #[] 0), #[]⟩
noncomputable def b613 (P : Params) : Obj := ⟨.none, none, (.func (mkFn0 (stIn 61 0) (S "TextRow.__init__") .none .none .none .none none .none .none)), #[]⟩
noncomputable def b614 (P : Params) : Obj := ⟨(.type "code"), none, (.fields #[(.str (S "__init__") 1107), (.str (S "TextRow.__init__") 1108), (.str (S "/claim/cut.py") 1109), (.int (544) 0), (.int (3) 0), (.int (0) 0), (.int (0) 0), (.int (3) 0), (.ref 609), (.bool true), (.int (181) 0), (.ref 610), .none, (.ref 611), (.ref 612), (.ref 613), (.int (1113) 0), (.int (544) 0), (.str (S "/claim/cut.py") 1114)]), #[]⟩
noncomputable def b615 (P : Params) : Obj := ⟨(.type "function"), none, (.func (mkFn (stIn 61 0) (S "TextRow.__init__") (.ref 608) .none .none (.str (S "emacs.textrow") 1092) none (.ref 614) .none)), #[]⟩
noncomputable def b616 (P : Params) : Obj := ⟨(.type "tuple"), none, (.seq #[] 0), #[]⟩
noncomputable def b617 (P : Params) : Obj := ⟨.none, none, (.fields #[]), #[]⟩
noncomputable def b618 (P : Params) : Obj := ⟨(.type "tuple"), none, (.seq #[(.str (S "self") 1119)] 0), #[]⟩
noncomputable def b619 (P : Params) : Obj := ⟨(.type "tuple"), none, (.seq #[] 0), #[]⟩
noncomputable def b620 (P : Params) : Obj := ⟨.none, none, (.func (mkFn0 (stIn 61 1) (S "TextRow.begin") .none .none .none .none none .none .none)), #[]⟩
noncomputable def b621 (P : Params) : Obj := ⟨(.type "code"), none, (.fields #[(.str (S "begin") 1116), (.str (S "TextRow.begin") 1117), (.str (S "/claim/cut.py") 1118), (.int (548) 0), (.int (1) 0), (.int (0) 0), (.int (0) 0), (.int (3) 0), (.ref 616), (.bool true), (.int (181) 0), (.ref 617), .none, (.ref 618), (.ref 619), (.ref 620), (.int (1120) 0), (.int (548) 0), (.str (S "/claim/cut.py") 1121)]), #[]⟩
noncomputable def b622 (P : Params) : Obj := ⟨(.type "function"), none, (.func (mkFn (stIn 61 1) (S "TextRow.begin") .none .none .none (.str (S "emacs.textrow") 1092) none (.ref 621) .none)), #[]⟩
noncomputable def b623 (P : Params) : Obj := ⟨(.type "tuple"), none, (.seq #[] 0), #[]⟩
noncomputable def b624 (P : Params) : Obj := ⟨.none, none, (.fields #[]), #[]⟩
noncomputable def b625 (P : Params) : Obj := ⟨(.type "tuple"), none, (.seq #[(.str (S "self") 1126)] 0), #[]⟩
noncomputable def b626 (P : Params) : Obj := ⟨(.type "tuple"), none, (.seq #[] 0), #[]⟩
noncomputable def b627 (P : Params) : Obj := ⟨.none, none, (.func (mkFn0 (stIn 61 2) (S "TextRow.end") .none .none .none .none none .none .none)), #[]⟩
noncomputable def b628 (P : Params) : Obj := ⟨(.type "code"), none, (.fields #[(.str (S "end") 1123), (.str (S "TextRow.end") 1124), (.str (S "/claim/cut.py") 1125), (.int (551) 0), (.int (1) 0), (.int (0) 0), (.int (0) 0), (.int (3) 0), (.ref 623), (.bool true), (.int (181) 0), (.ref 624), .none, (.ref 625), (.ref 626), (.ref 627), (.int (1127) 0), (.int (551) 0), (.str (S "/claim/cut.py") 1128)]), #[]⟩
noncomputable def b629 (P : Params) : Obj := ⟨(.type "function"), none, (.func (mkFn (stIn 61 2) (S "TextRow.end") .none .none .none (.str (S "emacs.textrow") 1092) none (.ref 628) .none)), #[]⟩
noncomputable def b630 (P : Params) : Obj := ⟨(.type "tuple"), none, (.seq #[] 0), #[]⟩
noncomputable def b631 (P : Params) : Obj := ⟨.none, none, (.fields #[]), #[]⟩
noncomputable def b632 (P : Params) : Obj := ⟨(.type "tuple"), none, (.seq #[(.str (S "self") 1133), (.str (S "place") 1134)] 0), #[]⟩
noncomputable def b633 (P : Params) : Obj := ⟨(.type "tuple"), none, (.seq #[] 0), #[]⟩
noncomputable def b634 (P : Params) : Obj := ⟨.none, none, (.func (mkFn0 (stIn 61 3) (S "TextRow.code_at") .none .none .none .none none .none .none)), #[]⟩
noncomputable def b635 (P : Params) : Obj := ⟨(.type "code"), none, (.fields #[(.str (S "code_at") 1130), (.str (S "TextRow.code_at") 1131), (.str (S "/claim/cut.py") 1132), (.int (554) 0), (.int (2) 0), (.int (0) 0), (.int (0) 0), (.int (3) 0), (.ref 630), (.bool true), (.int (181) 0), (.ref 631), .none, (.ref 632), (.ref 633), (.ref 634), (.int (1135) 0), (.int (554) 0), (.str (S "/claim/cut.py") 1136)]), #[]⟩
noncomputable def b636 (P : Params) : Obj := ⟨(.type "function"), none, (.func (mkFn (stIn 61 3) (S "TextRow.code_at") .none .none .none (.str (S "emacs.textrow") 1092) none (.ref 635) .none)), #[]⟩
noncomputable def b637 (P : Params) : Obj := ⟨(.type "tuple"), none, (.seq #[(.str (S "codes") 1138), (.str (S "place") 1139)] 0), #[]⟩
noncomputable def b638 (P : Params) : Obj := ⟨(.type "dict"), none, (.dict #[⟨H P (S "__module__"), (.str (S "__module__") 1101), (.str (S "emacs.textrow") 1092)⟩, ⟨H P (S "__firstlineno__"), (.str (S "__firstlineno__") 1105), (.int (542) 1104)⟩, ⟨H P (S "__init__"), (.str (S "__init__") 1115), (.ref 615)⟩, ⟨H P (S "begin"), (.str (S "begin") 1122), (.ref 622)⟩, ⟨H P (S "end"), (.str (S "end") 1129), (.ref 629)⟩, ⟨H P (S "code_at"), (.str (S "code_at") 1137), (.ref 636)⟩, ⟨H P (S "__static_attributes__"), (.str (S "__static_attributes__") 1140), (.ref 637)⟩, ⟨H P (S "__dict__"), (.str (S "__dict__") 1142), (.ref 640)⟩, ⟨H P (S "__weakref__"), (.str (S "__weakref__") 1144), (.ref 641)⟩, ⟨H P (S "__doc__"), (.str (S "__doc__") 1145), .none⟩] 4), #[]⟩
noncomputable def b639 (P : Params) : Obj := ⟨(.type "type"), none, (.cls { name := (S "TextRow"), bases := [(.type "object")], mro := [(.ref 639), (.type "object")], ns := 638, qualname := (S "TextRow"), hasDict := true, slotNames := [], subclasses := [], abstract := false, collection := none, hasDel := false }), #[none, none, (some (.str (S "TextRow") 1094)), (some (.str (S "TextRow") 1102)), (some (.builtin "object.__new__")), (some (.bool true))]⟩
noncomputable def b640 (P : Params) : Obj := ⟨(.type "getset_descriptor"), none, (.fields #[(.str (S "__dict__") 1141), (.ref 639), (.builtin "function.__dict__"), (.builtin "function.__dict__#set")]), #[]⟩
noncomputable def b641 (P : Params) : Obj := ⟨(.type "getset_descriptor"), none, (.fields #[(.str (S "__weakref__") 1143), (.ref 639), (.builtin "ExceptionGroup.__weakref__"), .none]), #[]⟩
noncomputable def b642 (P : Params) : Obj := ⟨(.type "super"), none, (.fields #[(.ref 639), (.ref 639), (.ref 639)]), #[]⟩
noncomputable def b643 (P : Params) : Obj := ⟨(.type "builtin_function_or_method"), none, (.fields #[(.builtin "object.__init_subclass__"), (.ref 639)]), #[]⟩
noncomputable def b644 (P : Params) : Obj := ⟨(.type "tuple"), none, (.seq #[] 0), #[]⟩
noncomputable def b645 (P : Params) : Obj := ⟨.none, none, (.fields #[]), #[]⟩
noncomputable def b646 (P : Params) : Obj := ⟨.none, none, (.func (mkFn0 (st 63) (S "_law_deck") .none .none .none .none none .none .none)), #[]⟩
noncomputable def b647 (P : Params) : Obj := ⟨(.type "code"), none, (.fields #[(.str (S "_law_deck") 1150), (.str (S "_law_deck") 1151), (.str (S "/claim/cut.py") 1152), (.int (559) 0), (.int (1) 0), (.int (0) 0), (.int (0) 0), (.int (3) 0), (.ref 644), (.bool true), (.int (181) 0), (.ref 645), .none, .none, .none, (.ref 646), (.int (1153) 0), (.int (559) 0), (.str (S "/claim/cut.py") 1154)]), #[]⟩
noncomputable def b648 (P : Params) : Obj := ⟨(.type "function"), none, (.func (mkFn (st 63) (S "_law_deck") .none .none .none (.str (S "law_np0101_01") 1148) none (.ref 647) .none)), #[]⟩
noncomputable def b649 (P : Params) : Obj := ⟨(.type "tuple"), none, (.seq #[] 0), #[]⟩
noncomputable def b650 (P : Params) : Obj := ⟨.none, none, (.fields #[]), #[]⟩
noncomputable def b651 (P : Params) : Obj := ⟨(.type "tuple"), none, (.seq #[(.str (S "deck") 1159), (.str (S "many") 1160), (.str (S "rest") 1161), (.str (S "mixed") 1162)] 0), #[]⟩
noncomputable def b652 (P : Params) : Obj := ⟨(.type "tuple"), none, (.seq #[] 0), #[]⟩
noncomputable def b653 (P : Params) : Obj := ⟨.none, none, (.func (mkFn0 (st 64) (S "_law_draw") .none .none .none .none none .none .none)), #[]⟩
noncomputable def b654 (P : Params) : Obj := ⟨(.type "code"), none, (.fields #[(.str (S "_law_draw") 1156), (.str (S "_law_draw") 1157), (.str (S "/claim/cut.py") 1158), (.int (562) 0), (.int (2) 0), (.int (0) 0), (.int (0) 0), (.int (3) 0), (.ref 649), (.bool true), (.int (181) 0), (.ref 650), .none, (.ref 651), (.ref 652), (.ref 653), (.int (1163) 0), (.int (562) 0), (.str (S "/claim/cut.py") 1164)]), #[]⟩
noncomputable def b655 (P : Params) : Obj := ⟨(.type "function"), none, (.func (mkFn (st 64) (S "_law_draw") .none .none .none (.str (S "law_np0101_01") 1148) none (.ref 654) .none)), #[]⟩
noncomputable def b656 (P : Params) : Obj := ⟨(.type "tuple"), none, (.seq #[] 0), #[]⟩
noncomputable def b657 (P : Params) : Obj := ⟨.none, none, (.fields #[]), #[]⟩
noncomputable def b658 (P : Params) : Obj := ⟨.none, none, (.func (mkFn0 (st 65) (S "_law_many") .none .none .none .none none .none .none)), #[]⟩
noncomputable def b659 (P : Params) : Obj := ⟨(.type "code"), none, (.fields #[(.str (S "_law_many") 1166), (.str (S "_law_many") 1167), (.str (S "/claim/cut.py") 1168), (.int (573) 0), (.int (3) 0), (.int (0) 0), (.int (0) 0), (.int (3) 0), (.ref 656), (.bool true), (.int (181) 0), (.ref 657), .none, .none, .none, (.ref 658), (.int (1169) 0), (.int (573) 0), (.str (S "/claim/cut.py") 1170)]), #[]⟩
noncomputable def b660 (P : Params) : Obj := ⟨(.type "function"), none, (.func (mkFn (st 65) (S "_law_many") .none .none .none (.str (S "law_np0101_01") 1148) none (.ref 659) .none)), #[]⟩
noncomputable def b661 (P : Params) : Obj := ⟨(.type "tuple"), none, (.seq #[] 0), #[]⟩
noncomputable def b662 (P : Params) : Obj := ⟨.none, none, (.fields #[]), #[]⟩
noncomputable def b663 (P : Params) : Obj := ⟨(.type "tuple"), none, (.seq #[(.str (S "row") 1175), (.str (S "at") 1176)] 0), #[]⟩
noncomputable def b664 (P : Params) : Obj := ⟨(.type "tuple"), none, (.seq #[] 0), #[]⟩
noncomputable def b665 (P : Params) : Obj := ⟨.none, none, (.func (mkFn0 (st 66) (S "_law_word_end") .none .none .none .none none .none .none)), #[]⟩
noncomputable def b666 (P : Params) : Obj := ⟨(.type "code"), none, (.fields #[(.str (S "_law_word_end") 1172), (.str (S "_law_word_end") 1173), (.str (S "/claim/cut.py") 1174), (.int (578) 0), (.int (2) 0), (.int (0) 0), (.int (0) 0), (.int (3) 0), (.ref 661), (.bool true), (.int (181) 0), (.ref 662), .none, (.ref 663), (.ref 664), (.ref 665), (.int (1177) 0), (.int (578) 0), (.str (S "/claim/cut.py") 1178)]), #[]⟩
noncomputable def b667 (P : Params) : Obj := ⟨(.type "function"), none, (.func (mkFn (st 66) (S "_law_word_end") .none .none .none (.str (S "law_np0101_01") 1148) none (.ref 666) .none)), #[]⟩
noncomputable def b668 (P : Params) : Obj := ⟨(.type "tuple"), none, (.seq #[] 0), #[]⟩
noncomputable def b669 (P : Params) : Obj := ⟨.none, none, (.fields #[]), #[]⟩
noncomputable def b670 (P : Params) : Obj := ⟨(.type "tuple"), none, (.seq #[(.str (S "row") 1183), (.str (S "at") 1184), (.str (S "depth") 1185), (.str (S "is_expression") 1186), (.str (S "least") 1187), (.str (S "good") 1188), (.str (S "sign") 1189)] 0), #[]⟩
noncomputable def b671 (P : Params) : Obj := ⟨(.type "tuple"), none, (.seq #[] 0), #[]⟩
noncomputable def b672 (P : Params) : Obj := ⟨.none, none, (.func (mkFn0 (st 67) (S "_law_one") .none .none .none .none none .none .none)), #[]⟩
noncomputable def b673 (P : Params) : Obj := ⟨(.type "code"), none, (.fields #[(.str (S "_law_one") 1180), (.str (S "_law_one") 1181), (.str (S "/claim/cut.py") 1182), (.int (582) 0), (.int (4) 0), (.int (0) 0), (.int (0) 0), (.int (3) 0), (.ref 668), (.bool true), (.int (181) 0), (.ref 669), .none, (.ref 670), (.ref 671), (.ref 672), (.int (1190) 0), (.int (582) 0), (.str (S "/claim/cut.py") 1191)]), #[]⟩
noncomputable def b674 (P : Params) : Obj := ⟨(.type "function"), none, (.func (mkFn (st 67) (S "_law_one") .none .none .none (.str (S "law_np0101_01") 1148) none (.ref 673) .none)), #[]⟩
noncomputable def b675 (P : Params) : Obj := ⟨(.type "tuple"), none, (.seq #[] 0), #[]⟩
noncomputable def b676 (P : Params) : Obj := ⟨.none, none, (.fields #[]), #[]⟩
noncomputable def b677 (P : Params) : Obj := ⟨(.type "tuple"), none, (.seq #[(.str (S "row") 1196), (.str (S "at") 1197), (.str (S "count") 1198), (.str (S "depth") 1199), (.str (S "is_expression") 1200), (.str (S "found") 1201), (.str (S "nth") 1202)] 0), #[]⟩
noncomputable def b678 (P : Params) : Obj := ⟨(.type "tuple"), none, (.seq #[] 0), #[]⟩
noncomputable def b679 (P : Params) : Obj := ⟨.none, none, (.func (mkFn0 (st 68) (S "_law_scan") .none .none .none .none none .none .none)), #[]⟩
noncomputable def b680 (P : Params) : Obj := ⟨(.type "code"), none, (.fields #[(.str (S "_law_scan") 1193), (.str (S "_law_scan") 1194), (.str (S "/claim/cut.py") 1195), (.int (598) 0), (.int (5) 0), (.int (0) 0), (.int (0) 0), (.int (3) 0), (.ref 675), (.bool true), (.int (181) 0), (.ref 676), .none, (.ref 677), (.ref 678), (.ref 679), (.int (1203) 0), (.int (598) 0), (.str (S "/claim/cut.py") 1204)]), #[]⟩
noncomputable def b681 (P : Params) : Obj := ⟨(.type "function"), none, (.func (mkFn (st 68) (S "_law_scan") .none .none .none (.str (S "law_np0101_01") 1148) none (.ref 680) .none)), #[]⟩
noncomputable def b682 (P : Params) : Obj := ⟨(.type "tuple"), none, (.seq #[] 0), #[]⟩
noncomputable def b683 (P : Params) : Obj := ⟨.none, none, (.fields #[]), #[]⟩
noncomputable def b684 (P : Params) : Obj := ⟨.none, none, (.func (mkFn0 (st 69) (S "_law_due") .none .none .none .none none .none .none)), #[]⟩
noncomputable def b685 (P : Params) : Obj := ⟨(.type "code"), none, (.fields #[(.str (S "_law_due") 1206), (.str (S "_law_due") 1207), (.str (S "/claim/cut.py") 1208), (.int (606) 0), (.int (5) 0), (.int (0) 0), (.int (0) 0), (.int (3) 0), (.ref 682), (.bool true), (.int (181) 0), (.ref 683), .none, .none, .none, (.ref 684), (.int (1209) 0), (.int (606) 0), (.str (S "/claim/cut.py") 1210)]), #[]⟩
noncomputable def b686 (P : Params) : Obj := ⟨(.type "function"), none, (.func (mkFn (st 69) (S "_law_due") .none .none .none (.str (S "law_np0101_01") 1148) none (.ref 685) .none)), #[]⟩
noncomputable def b687 (P : Params) : Obj := ⟨(.type "tuple"), none, (.seq #[] 0), #[]⟩
noncomputable def b688 (P : Params) : Obj := ⟨.none, none, (.fields #[]), #[]⟩
noncomputable def b689 (P : Params) : Obj := ⟨(.type "tuple"), none, (.seq #[(.str (S "view") 1215), (.str (S "table") 1216), (.str (S "at") 1217), (.str (S "count") 1218), (.str (S "depth") 1219), (.str (S "is_expression") 1220), (.str (S "found") 1221), (.str (S "error") 1222)] 0), #[]⟩
noncomputable def b690 (P : Params) : Obj := ⟨(.type "tuple"), none, (.seq #[] 0), #[]⟩
noncomputable def b691 (P : Params) : Obj := ⟨.none, none, (.func (mkFn0 (st 70) (S "_law_told") .none .none .none .none none .none .none)), #[]⟩
noncomputable def b692 (P : Params) : Obj := ⟨(.type "code"), none, (.fields #[(.str (S "_law_told") 1212), (.str (S "_law_told") 1213), (.str (S "/claim/cut.py") 1214), (.int (613) 0), (.int (6) 0), (.int (0) 0), (.int (0) 0), (.int (3) 0), (.ref 687), (.bool true), (.int (181) 0), (.ref 688), .none, (.ref 689), (.ref 690), (.ref 691), (.int (1223) 0), (.int (613) 0), (.str (S "/claim/cut.py") 1224)]), #[]⟩
noncomputable def b693 (P : Params) : Obj := ⟨(.type "function"), none, (.func (mkFn (st 70) (S "_law_told") .none .none .none (.str (S "law_np0101_01") 1148) none (.ref 692) .none)), #[]⟩
noncomputable def b694 (P : Params) : Obj := ⟨(.type "tuple"), none, (.seq #[] 0), #[]⟩
noncomputable def b695 (P : Params) : Obj := ⟨.none, none, (.fields #[]), #[]⟩
noncomputable def b696 (P : Params) : Obj := ⟨.none, none, (.func (mkFn0 (st 71) (S "law") .none .none .none .none none .none .none)), #[]⟩
noncomputable def b697 (P : Params) : Obj := ⟨(.type "code"), none, (.fields #[(.str (S "law") 1226), (.str (S "law") 1227), (.str (S "/claim/cut.py") 1228), (.int (622) 0), (.int (1) 0), (.int (0) 0), (.int (0) 0), (.int (3) 0), (.ref 694), (.bool true), (.int (181) 0), (.ref 695), .none, .none, .none, (.ref 696), (.int (1229) 0), (.int (622) 0), (.str (S "/claim/cut.py") 1230)]), #[]⟩
noncomputable def b698 (P : Params) : Obj := ⟨(.type "function"), none, (.func (mkFn (st 71) (S "law") .none .none .none (.str (S "law_np0101_01") 1148) none (.ref 697) .none)), #[]⟩
noncomputable def c12_0 (P : Params) : Obj := ⟨.none, none, (.fields #[]), #[]⟩
noncomputable def L0_0 (P : Params) : List Obj := [b0 P, b1 P, PySem.W.boot_o_2 P, PySem.W.boot_o_3 P, b4 P, b5 P, b6 P, b7 P, b8 P, b9 P, b10 P, b11 P, c12_0 P, b13 P, b14 P]
noncomputable def L0 (P : Params) : List Obj := L0_0 P
noncomputable def c3_1 (P : Params) : Obj := ⟨(.type "dict"), none, (.dict #[⟨H P (S "__name__"), (.str (S "__name__") 165), (.str (S "emacs.syntax") 333)⟩, ⟨H P (S "__doc__"), (.str (S "__doc__") 166), .none⟩, ⟨H P (S "__package__"), (.str (S "__package__") 167), .none⟩, ⟨H P (S "__loader__"), (.str (S "__loader__") 168), (.builtin "__main__.__loader__#opaque")⟩, ⟨H P (S "__spec__"), (.str (S "__spec__") 169), .none⟩, ⟨H P (S "__annotations__"), (.str (S "__annotations__") 170), (.ref 6)⟩, ⟨H P (S "__builtins__"), (.str (S "__builtins__") 171), (.ref 4)⟩, ⟨H P (S "__file__"), (.str (S "__file__") 173), (.str (S "/claim/cut.py") 172)⟩, ⟨H P (S "__cached__"), (.str (S "__cached__") 174), .none⟩, ⟨H P (S "_wall"), (.str (S "_wall") 193), (.ref 21)⟩, ⟨H P (S "ParseState"), (.str (S "ParseState") 280), (.ref 68)⟩, ⟨H P (S "state_of"), (.str (S "state_of") 299), (.ref 79)⟩, ⟨H P (S "LispSignal"), (.str (S "LispSignal") 332), (.ref 96)⟩, ⟨H P (S "WHITESPACE"), (.str (S "WHITESPACE") 336), (.str (S " ") 335)⟩, ⟨H P (S "WORD"), (.str (S "WORD") 338), (.str (S "w") 337)⟩, ⟨H P (S "SYMBOL"), (.str (S "SYMBOL") 340), (.str (S "_") 339)⟩, ⟨H P (S "PUNCTUATION"), (.str (S "PUNCTUATION") 342), (.str (S ".") 341)⟩, ⟨H P (S "OPENS"), (.str (S "OPENS") 344), (.str (S "(") 343)⟩, ⟨H P (S "CLOSES"), (.str (S "CLOSES") 346), (.str (S ")") 345)⟩, ⟨H P (S "PREFIX"), (.str (S "PREFIX") 348), (.str (S "'") 347)⟩, ⟨H P (S "STRING"), (.str (S "STRING") 350), (.str (S "\"") 349)⟩, ⟨H P (S "ESCAPE"), (.str (S "ESCAPE") 352), (.str (S "\\") 351)⟩, ⟨H P (S "QUOTES"), (.str (S "QUOTES") 354), (.str (S "/") 353)⟩, ⟨H P (S "PAIRED"), (.str (S "PAIRED") 356), (.str (S "$") 355)⟩, ⟨H P (S "BEGINS"), (.str (S "BEGINS") 358), (.str (S "<") 357)⟩, ⟨H P (S "ENDS"), (.str (S "ENDS") 360), (.str (S ">") 359)⟩, ⟨H P (S "INHERITS"), (.str (S "INHERITS") 362), (.str (S "@") 361)⟩, ⟨H P (S "COMMENT_FENCE"), (.str (S "COMMENT_FENCE") 364), (.str (S "!") 363)⟩, ⟨H P (S "STRING_FENCE"), (.str (S "STRING_FENCE") 366), (.str (S "|") 365)⟩, ⟨H P (S "KINDS"), (.str (S "KINDS") 368), (.str (S " w_.()'\"\\/$<>@!|") 367)⟩, ⟨H P (S "FLAGS"), (.str (S "FLAGS") 370), (.str (S "1234bcnp") 369)⟩, ⟨H P (S "Syntax"), (.str (S "Syntax") 432), (.ref 144)⟩, ⟨H P (S "sorted_flags"), (.str (S "sorted_flags") 438), (.ref 153)⟩, ⟨H P (S "read_syntax"), (.str (S "read_syntax") 444), (.ref 158)⟩, ⟨H P (S "SyntaxTable"), (.str (S "SyntaxTable") 538), (.ref 225)⟩] 35), #[]⟩
noncomputable def c12_2 (P : Params) : Obj := ⟨.none, none, (.fields #[(.int (1) 0), (.int (0) 0), (.ref 20), (.int (5) 0), (.int (0) 0), (.ref 27), (.int (33) 0), (.int (0) 0), (.ref 78), (.int (37) 0), (.int (0) 0), (.ref 85), (.int (61) 0), (.int (0) 0), (.ref 105), (.int (79) 0), (.int (0) 0), (.ref 152), (.int (81) 0), (.int (0) 0), (.ref 157), (.int (90) 0), (.int (0) 0), (.ref 164)]), #[]⟩
noncomputable def L1_0 (P : Params) : List Obj := [b0 P, b1 P, b2 P, c3_1 P, b4 P, b5 P, b6 P, b7 P, b8 P, b9 P, b10 P, b11 P, c12_2 P, b13 P, b14 P, b15 P, b16 P, b17 P, b18 P, b19 P, b20 P, b21 P, b22 P, b23 P, b24 P, b25 P, b26 P, b27 P, b28 P, b29 P, b30 P, b31 P, b32 P, b33 P, b34 P, b35 P, b36 P, b37 P, b38 P, b39 P]
noncomputable def L1_1 (P : Params) : List Obj := [b40 P, b41 P, b42 P, b43 P, b44 P, b45 P, b46 P, b47 P, b48 P, b49 P, b50 P, b51 P, b52 P, b53 P, b54 P, b55 P, b56 P, b57 P, b58 P, b59 P, b60 P, b61 P, b62 P, b63 P, b64 P, b65 P, b66 P, b67 P, b68 P, b69 P, b70 P, b71 P, b72 P, b73 P, b74 P, b75 P, b76 P, b77 P, b78 P, b79 P]
noncomputable def L1_2 (P : Params) : List Obj := [b80 P, b81 P, b82 P, b83 P, b84 P, b85 P, b86 P, b87 P, b88 P, b89 P, b90 P, b91 P, b92 P, b93 P, b94 P, b95 P, b96 P, b97 P, b98 P, b99 P, b100 P, b101 P, b102 P, b103 P, b104 P, b105 P, b106 P, b107 P, b108 P, b109 P, b110 P, b111 P, b112 P, b113 P, b114 P, b115 P, b116 P, b117 P, b118 P, b119 P]
noncomputable def L1_3 (P : Params) : List Obj := [b120 P, b121 P, b122 P, b123 P, b124 P, b125 P, b126 P, b127 P, b128 P, b129 P, b130 P, b131 P, b132 P, b133 P, b134 P, b135 P, b136 P, b137 P, b138 P, b139 P, b140 P, b141 P, b142 P, b143 P, b144 P, b145 P, b146 P, b147 P, b148 P, b149 P, b150 P, b151 P, b152 P, b153 P, b154 P, b155 P, b156 P, b157 P, b158 P, b159 P]
noncomputable def L1_4 (P : Params) : List Obj := [b160 P, b161 P, b162 P, b163 P, b164 P, b165 P, b166 P, b167 P, b168 P, b169 P, b170 P, b171 P, b172 P, b173 P, b174 P, b175 P, b176 P, b177 P, b178 P, b179 P, b180 P, b181 P, b182 P, b183 P, b184 P, b185 P, b186 P, b187 P, b188 P, b189 P, b190 P, b191 P, b192 P, b193 P, b194 P, b195 P, b196 P, b197 P, b198 P, b199 P]
noncomputable def L1_5 (P : Params) : List Obj := [b200 P, b201 P, b202 P, b203 P, b204 P, b205 P, b206 P, b207 P, b208 P, b209 P, b210 P, b211 P, b212 P, b213 P, b214 P, b215 P, b216 P, b217 P, b218 P, b219 P, b220 P, b221 P, b222 P, b223 P, b224 P, b225 P, b226 P, b227 P, b228 P, b229 P]
noncomputable def L1 (P : Params) : List Obj := L1_0 P ++ (L1_1 P ++ (L1_2 P ++ (L1_3 P ++ (L1_4 P ++ (L1_5 P)))))
noncomputable def c3_3 (P : Params) : Obj := ⟨(.type "dict"), none, (.dict #[⟨H P (S "__name__"), (.str (S "__name__") 165), (.str (S "emacs.scans") 867)⟩, ⟨H P (S "__doc__"), (.str (S "__doc__") 166), .none⟩, ⟨H P (S "__package__"), (.str (S "__package__") 167), .none⟩, ⟨H P (S "__loader__"), (.str (S "__loader__") 168), (.builtin "__main__.__loader__#opaque")⟩, ⟨H P (S "__spec__"), (.str (S "__spec__") 169), .none⟩, ⟨H P (S "__annotations__"), (.str (S "__annotations__") 170), (.ref 6)⟩, ⟨H P (S "__builtins__"), (.str (S "__builtins__") 171), (.ref 4)⟩, ⟨H P (S "__file__"), (.str (S "__file__") 173), (.str (S "/claim/cut.py") 172)⟩, ⟨H P (S "__cached__"), (.str (S "__cached__") 174), .none⟩, ⟨H P (S "_wall"), (.str (S "_wall") 193), (.ref 21)⟩, ⟨H P (S "ParseState"), (.str (S "ParseState") 280), (.ref 68)⟩, ⟨H P (S "state_of"), (.str (S "state_of") 299), (.ref 79)⟩, ⟨H P (S "LispSignal"), (.str (S "LispSignal") 332), (.ref 96)⟩, ⟨H P (S "WHITESPACE"), (.str (S "WHITESPACE") 336), (.str (S " ") 335)⟩, ⟨H P (S "WORD"), (.str (S "WORD") 338), (.str (S "w") 337)⟩, ⟨H P (S "SYMBOL"), (.str (S "SYMBOL") 340), (.str (S "_") 339)⟩, ⟨H P (S "PUNCTUATION"), (.str (S "PUNCTUATION") 342), (.str (S ".") 341)⟩, ⟨H P (S "OPENS"), (.str (S "OPENS") 344), (.str (S "(") 343)⟩, ⟨H P (S "CLOSES"), (.str (S "CLOSES") 346), (.str (S ")") 345)⟩, ⟨H P (S "PREFIX"), (.str (S "PREFIX") 348), (.str (S "'") 347)⟩, ⟨H P (S "STRING"), (.str (S "STRING") 350), (.str (S "\"") 349)⟩, ⟨H P (S "ESCAPE"), (.str (S "ESCAPE") 352), (.str (S "\\") 351)⟩, ⟨H P (S "QUOTES"), (.str (S "QUOTES") 354), (.str (S "/") 353)⟩, ⟨H P (S "PAIRED"), (.str (S "PAIRED") 356), (.str (S "$") 355)⟩, ⟨H P (S "BEGINS"), (.str (S "BEGINS") 358), (.str (S "<") 357)⟩, ⟨H P (S "ENDS"), (.str (S "ENDS") 360), (.str (S ">") 359)⟩, ⟨H P (S "INHERITS"), (.str (S "INHERITS") 362), (.str (S "@") 361)⟩, ⟨H P (S "COMMENT_FENCE"), (.str (S "COMMENT_FENCE") 364), (.str (S "!") 363)⟩, ⟨H P (S "STRING_FENCE"), (.str (S "STRING_FENCE") 366), (.str (S "|") 365)⟩, ⟨H P (S "KINDS"), (.str (S "KINDS") 368), (.str (S " w_.()'\"\\/$<>@!|") 367)⟩, ⟨H P (S "FLAGS"), (.str (S "FLAGS") 370), (.str (S "1234bcnp") 369)⟩, ⟨H P (S "Syntax"), (.str (S "Syntax") 432), (.ref 144)⟩, ⟨H P (S "sorted_flags"), (.str (S "sorted_flags") 438), (.ref 153)⟩, ⟨H P (S "read_syntax"), (.str (S "read_syntax") 444), (.ref 158)⟩, ⟨H P (S "SyntaxTable"), (.str (S "SyntaxTable") 538), (.ref 225)⟩, ⟨H P (S "letters"), (.str (S "letters") 544), (.ref 236)⟩, ⟨H P (S "standard_table"), (.str (S "standard_table") 553), (.ref 243)⟩, ⟨H P (S "Mark"), (.str (S "Mark") 590), (.ref 260)⟩, ⟨H P (S "syntax_at"), (.str (S "syntax_at") 600), (.ref 271)⟩, ⟨H P (S "pair_style"), (.str (S "pair_style") 609), (.ref 278)⟩, ⟨H P (S "begin_mark"), (.str (S "begin_mark") 620), (.ref 285)⟩, ⟨H P (S "end_mark"), (.str (S "end_mark") 631), (.ref 292)⟩, ⟨H P (S "fits"), (.str (S "fits") 641), (.ref 299)⟩, ⟨H P (S "is_quoted"), (.str (S "is_quoted") 652), (.ref 306)⟩, ⟨H P (S "Walk"), (.str (S "Walk") 839), (.ref 442)⟩, ⟨H P (S "comment_end"), (.str (S "comment_end") 851), (.ref 453)⟩, ⟨H P (S "spans_to"), (.str (S "spans_to") 866), (.ref 460)⟩, ⟨H P (S "ENDS_TOO_SOON"), (.str (S "ENDS_TOO_SOON") 870), (.str (S "Containing expression ends prematurely") 869)⟩, ⟨H P (S "UNBALANCED"), (.str (S "UNBALANCED") 872), (.str (S "Unbalanced parentheses") 871)⟩] 49), #[]⟩
noncomputable def c12_4 (P : Params) : Obj := ⟨.none, none, (.fields #[(.int (1) 0), (.int (0) 0), (.ref 20), (.int (5) 0), (.int (0) 0), (.ref 27), (.int (33) 0), (.int (0) 0), (.ref 78), (.int (37) 0), (.int (0) 0), (.ref 85), (.int (61) 0), (.int (0) 0), (.ref 105), (.int (79) 0), (.int (0) 0), (.ref 152), (.int (81) 0), (.int (0) 0), (.ref 157), (.int (90) 0), (.int (0) 0), (.ref 164), (.int (125) 0), (.int (0) 0), (.ref 235), (.int (127) 0), (.int (0) 0), (.ref 242), (.int (140) 0), (.int (0) 0), (.ref 249), (.int (147) 0), (.int (0) 0), (.ref 270), (.int (150) 0), (.int (0) 0), (.ref 277), (.int (153) 0), (.int (0) 0), (.ref 284), (.int (162) 0), (.int (0) 0), (.ref 291), (.int (171) 0), (.int (0) 0), (.ref 298), (.int (175) 0), (.int (0) 0), (.ref 305), (.int (183) 0), (.int (0) 0), (.ref 312), (.int (346) 0), (.int (0) 0), (.ref 452), (.int (354) 0), (.int (0) 0), (.ref 459)]), #[]⟩
noncomputable def L2_0 (P : Params) : List Obj := [b0 P, b1 P, b2 P, c3_3 P, b4 P, b5 P, b6 P, b7 P, b8 P, b9 P, b10 P, b11 P, c12_4 P, b13 P, b14 P, b15 P, b16 P, b17 P, b18 P, b19 P, b20 P, b21 P, b22 P, b23 P, b24 P, b25 P, b26 P, b27 P, b28 P, b29 P, b30 P, b31 P, b32 P, b33 P, b34 P, b35 P, b36 P, b37 P, b38 P, b39 P]
noncomputable def L2_1 (P : Params) : List Obj := [b40 P, b41 P, b42 P, b43 P, b44 P, b45 P, b46 P, b47 P, b48 P, b49 P, b50 P, b51 P, b52 P, b53 P, b54 P, b55 P, b56 P, b57 P, b58 P, b59 P, b60 P, b61 P, b62 P, b63 P, b64 P, b65 P, b66 P, b67 P, b68 P, b69 P, b70 P, b71 P, b72 P, b73 P, b74 P, b75 P, b76 P, b77 P, b78 P, b79 P]
noncomputable def L2_2 (P : Params) : List Obj := [b80 P, b81 P, b82 P, b83 P, b84 P, b85 P, b86 P, b87 P, b88 P, b89 P, b90 P, b91 P, b92 P, b93 P, b94 P, b95 P, b96 P, b97 P, b98 P, b99 P, b100 P, b101 P, b102 P, b103 P, b104 P, b105 P, b106 P, b107 P, b108 P, b109 P, b110 P, b111 P, b112 P, b113 P, b114 P, b115 P, b116 P, b117 P, b118 P, b119 P]
noncomputable def L2_3 (P : Params) : List Obj := [b120 P, b121 P, b122 P, b123 P, b124 P, b125 P, b126 P, b127 P, b128 P, b129 P, b130 P, b131 P, b132 P, b133 P, b134 P, b135 P, b136 P, b137 P, b138 P, b139 P, b140 P, b141 P, b142 P, b143 P, b144 P, b145 P, b146 P, b147 P, b148 P, b149 P, b150 P, b151 P, b152 P, b153 P, b154 P, b155 P, b156 P, b157 P, b158 P, b159 P]
noncomputable def L2_4 (P : Params) : List Obj := [b160 P, b161 P, b162 P, b163 P, b164 P, b165 P, b166 P, b167 P, b168 P, b169 P, b170 P, b171 P, b172 P, b173 P, b174 P, b175 P, b176 P, b177 P, b178 P, b179 P, b180 P, b181 P, b182 P, b183 P, b184 P, b185 P, b186 P, b187 P, b188 P, b189 P, b190 P, b191 P, b192 P, b193 P, b194 P, b195 P, b196 P, b197 P, b198 P, b199 P]
noncomputable def L2_5 (P : Params) : List Obj := [b200 P, b201 P, b202 P, b203 P, b204 P, b205 P, b206 P, b207 P, b208 P, b209 P, b210 P, b211 P, b212 P, b213 P, b214 P, b215 P, b216 P, b217 P, b218 P, b219 P, b220 P, b221 P, b222 P, b223 P, b224 P, b225 P, b226 P, b227 P, b228 P, b229 P, b230 P, b231 P, b232 P, b233 P, b234 P, b235 P, b236 P, b237 P, b238 P, b239 P]
noncomputable def L2_6 (P : Params) : List Obj := [b240 P, b241 P, b242 P, b243 P, b244 P, b245 P, b246 P, b247 P, b248 P, b249 P, b250 P, b251 P, b252 P, b253 P, b254 P, b255 P, b256 P, b257 P, b258 P, b259 P, b260 P, b261 P, b262 P, b263 P, b264 P, b265 P, b266 P, b267 P, b268 P, b269 P, b270 P, b271 P, b272 P, b273 P, b274 P, b275 P, b276 P, b277 P, b278 P, b279 P]
noncomputable def L2_7 (P : Params) : List Obj := [b280 P, b281 P, b282 P, b283 P, b284 P, b285 P, b286 P, b287 P, b288 P, b289 P, b290 P, b291 P, b292 P, b293 P, b294 P, b295 P, b296 P, b297 P, b298 P, b299 P, b300 P, b301 P, b302 P, b303 P, b304 P, b305 P, b306 P, b307 P, b308 P, b309 P, b310 P, b311 P, b312 P, b313 P, b314 P, b315 P, b316 P, b317 P, b318 P, b319 P]
noncomputable def L2_8 (P : Params) : List Obj := [b320 P, b321 P, b322 P, b323 P, b324 P, b325 P, b326 P, b327 P, b328 P, b329 P, b330 P, b331 P, b332 P, b333 P, b334 P, b335 P, b336 P, b337 P, b338 P, b339 P, b340 P, b341 P, b342 P, b343 P, b344 P, b345 P, b346 P, b347 P, b348 P, b349 P, b350 P, b351 P, b352 P, b353 P, b354 P, b355 P, b356 P, b357 P, b358 P, b359 P]
noncomputable def L2_9 (P : Params) : List Obj := [b360 P, b361 P, b362 P, b363 P, b364 P, b365 P, b366 P, b367 P, b368 P, b369 P, b370 P, b371 P, b372 P, b373 P, b374 P, b375 P, b376 P, b377 P, b378 P, b379 P, b380 P, b381 P, b382 P, b383 P, b384 P, b385 P, b386 P, b387 P, b388 P, b389 P, b390 P, b391 P, b392 P, b393 P, b394 P, b395 P, b396 P, b397 P, b398 P, b399 P]
noncomputable def L2_10 (P : Params) : List Obj := [b400 P, b401 P, b402 P, b403 P, b404 P, b405 P, b406 P, b407 P, b408 P, b409 P, b410 P, b411 P, b412 P, b413 P, b414 P, b415 P, b416 P, b417 P, b418 P, b419 P, b420 P, b421 P, b422 P, b423 P, b424 P, b425 P, b426 P, b427 P, b428 P, b429 P, b430 P, b431 P, b432 P, b433 P, b434 P, b435 P, b436 P, b437 P, b438 P, b439 P]
noncomputable def L2_11 (P : Params) : List Obj := [b440 P, b441 P, b442 P, b443 P, b444 P, b445 P, b446 P, b447 P, b448 P, b449 P, b450 P, b451 P, b452 P, b453 P, b454 P, b455 P, b456 P, b457 P, b458 P, b459 P, b460 P]
noncomputable def L2 (P : Params) : List Obj := L2_0 P ++ (L2_1 P ++ (L2_2 P ++ (L2_3 P ++ (L2_4 P ++ (L2_5 P ++ (L2_6 P ++ (L2_7 P ++ (L2_8 P ++ (L2_9 P ++ (L2_10 P ++ (L2_11 P)))))))))))
noncomputable def L3_0 (P : Params) : List Obj := [b0 P, b1 P, b2 P, b3 P, b4 P, b5 P, b6 P, b7 P, b8 P, b9 P, b10 P, b11 P, b12 P, b13 P, b14 P, b15 P, b16 P, b17 P, b18 P, b19 P, b20 P, b21 P, b22 P, b23 P, b24 P, b25 P, b26 P, b27 P, b28 P, b29 P, b30 P, b31 P, b32 P, b33 P, b34 P, b35 P, b36 P, b37 P, b38 P, b39 P]
noncomputable def L3_1 (P : Params) : List Obj := [b40 P, b41 P, b42 P, b43 P, b44 P, b45 P, b46 P, b47 P, b48 P, b49 P, b50 P, b51 P, b52 P, b53 P, b54 P, b55 P, b56 P, b57 P, b58 P, b59 P, b60 P, b61 P, b62 P, b63 P, b64 P, b65 P, b66 P, b67 P, b68 P, b69 P, b70 P, b71 P, b72 P, b73 P, b74 P, b75 P, b76 P, b77 P, b78 P, b79 P]
noncomputable def L3_2 (P : Params) : List Obj := [b80 P, b81 P, b82 P, b83 P, b84 P, b85 P, b86 P, b87 P, b88 P, b89 P, b90 P, b91 P, b92 P, b93 P, b94 P, b95 P, b96 P, b97 P, b98 P, b99 P, b100 P, b101 P, b102 P, b103 P, b104 P, b105 P, b106 P, b107 P, b108 P, b109 P, b110 P, b111 P, b112 P, b113 P, b114 P, b115 P, b116 P, b117 P, b118 P, b119 P]
noncomputable def L3_3 (P : Params) : List Obj := [b120 P, b121 P, b122 P, b123 P, b124 P, b125 P, b126 P, b127 P, b128 P, b129 P, b130 P, b131 P, b132 P, b133 P, b134 P, b135 P, b136 P, b137 P, b138 P, b139 P, b140 P, b141 P, b142 P, b143 P, b144 P, b145 P, b146 P, b147 P, b148 P, b149 P, b150 P, b151 P, b152 P, b153 P, b154 P, b155 P, b156 P, b157 P, b158 P, b159 P]
noncomputable def L3_4 (P : Params) : List Obj := [b160 P, b161 P, b162 P, b163 P, b164 P, b165 P, b166 P, b167 P, b168 P, b169 P, b170 P, b171 P, b172 P, b173 P, b174 P, b175 P, b176 P, b177 P, b178 P, b179 P, b180 P, b181 P, b182 P, b183 P, b184 P, b185 P, b186 P, b187 P, b188 P, b189 P, b190 P, b191 P, b192 P, b193 P, b194 P, b195 P, b196 P, b197 P, b198 P, b199 P]
noncomputable def L3_5 (P : Params) : List Obj := [b200 P, b201 P, b202 P, b203 P, b204 P, b205 P, b206 P, b207 P, b208 P, b209 P, b210 P, b211 P, b212 P, b213 P, b214 P, b215 P, b216 P, b217 P, b218 P, b219 P, b220 P, b221 P, b222 P, b223 P, b224 P, b225 P, b226 P, b227 P, b228 P, b229 P, b230 P, b231 P, b232 P, b233 P, b234 P, b235 P, b236 P, b237 P, b238 P, b239 P]
noncomputable def L3_6 (P : Params) : List Obj := [b240 P, b241 P, b242 P, b243 P, b244 P, b245 P, b246 P, b247 P, b248 P, b249 P, b250 P, b251 P, b252 P, b253 P, b254 P, b255 P, b256 P, b257 P, b258 P, b259 P, b260 P, b261 P, b262 P, b263 P, b264 P, b265 P, b266 P, b267 P, b268 P, b269 P, b270 P, b271 P, b272 P, b273 P, b274 P, b275 P, b276 P, b277 P, b278 P, b279 P]
noncomputable def L3_7 (P : Params) : List Obj := [b280 P, b281 P, b282 P, b283 P, b284 P, b285 P, b286 P, b287 P, b288 P, b289 P, b290 P, b291 P, b292 P, b293 P, b294 P, b295 P, b296 P, b297 P, b298 P, b299 P, b300 P, b301 P, b302 P, b303 P, b304 P, b305 P, b306 P, b307 P, b308 P, b309 P, b310 P, b311 P, b312 P, b313 P, b314 P, b315 P, b316 P, b317 P, b318 P, b319 P]
noncomputable def L3_8 (P : Params) : List Obj := [b320 P, b321 P, b322 P, b323 P, b324 P, b325 P, b326 P, b327 P, b328 P, b329 P, b330 P, b331 P, b332 P, b333 P, b334 P, b335 P, b336 P, b337 P, b338 P, b339 P, b340 P, b341 P, b342 P, b343 P, b344 P, b345 P, b346 P, b347 P, b348 P, b349 P, b350 P, b351 P, b352 P, b353 P, b354 P, b355 P, b356 P, b357 P, b358 P, b359 P]
noncomputable def L3_9 (P : Params) : List Obj := [b360 P, b361 P, b362 P, b363 P, b364 P, b365 P, b366 P, b367 P, b368 P, b369 P, b370 P, b371 P, b372 P, b373 P, b374 P, b375 P, b376 P, b377 P, b378 P, b379 P, b380 P, b381 P, b382 P, b383 P, b384 P, b385 P, b386 P, b387 P, b388 P, b389 P, b390 P, b391 P, b392 P, b393 P, b394 P, b395 P, b396 P, b397 P, b398 P, b399 P]
noncomputable def L3_10 (P : Params) : List Obj := [b400 P, b401 P, b402 P, b403 P, b404 P, b405 P, b406 P, b407 P, b408 P, b409 P, b410 P, b411 P, b412 P, b413 P, b414 P, b415 P, b416 P, b417 P, b418 P, b419 P, b420 P, b421 P, b422 P, b423 P, b424 P, b425 P, b426 P, b427 P, b428 P, b429 P, b430 P, b431 P, b432 P, b433 P, b434 P, b435 P, b436 P, b437 P, b438 P, b439 P]
noncomputable def L3_11 (P : Params) : List Obj := [b440 P, b441 P, b442 P, b443 P, b444 P, b445 P, b446 P, b447 P, b448 P, b449 P, b450 P, b451 P, b452 P, b453 P, b454 P, b455 P, b456 P, b457 P, b458 P, b459 P, b460 P, b461 P, b462 P, b463 P, b464 P, b465 P, b466 P, b467 P, b468 P, b469 P, b470 P, b471 P, b472 P, b473 P, b474 P, b475 P, b476 P, b477 P, b478 P, b479 P]
noncomputable def L3_12 (P : Params) : List Obj := [b480 P, b481 P, b482 P, b483 P, b484 P, b485 P, b486 P, b487 P, b488 P, b489 P, b490 P, b491 P, b492 P, b493 P, b494 P, b495 P, b496 P, b497 P, b498 P, b499 P, b500 P, b501 P, b502 P, b503 P, b504 P, b505 P, b506 P, b507 P, b508 P, b509 P, b510 P, b511 P, b512 P, b513 P, b514 P, b515 P, b516 P, b517 P, b518 P, b519 P]
noncomputable def L3_13 (P : Params) : List Obj := [b520 P, b521 P, b522 P, b523 P, b524 P, b525 P, b526 P, b527 P, b528 P, b529 P, b530 P, b531 P, b532 P, b533 P, b534 P, b535 P, b536 P, b537 P, b538 P, b539 P, b540 P, b541 P, b542 P, b543 P, b544 P, b545 P, b546 P, b547 P, b548 P, b549 P, b550 P, b551 P, b552 P, b553 P, b554 P, b555 P, b556 P, b557 P, b558 P, b559 P]
noncomputable def L3_14 (P : Params) : List Obj := [b560 P, b561 P, b562 P, b563 P, b564 P, b565 P, b566 P, b567 P, b568 P, b569 P, b570 P, b571 P, b572 P, b573 P, b574 P, b575 P, b576 P, b577 P, b578 P, b579 P, b580 P, b581 P, b582 P, b583 P, b584 P, b585 P, b586 P, b587 P, b588 P, b589 P, b590 P, b591 P, b592 P, b593 P, b594 P, b595 P, b596 P, b597 P, b598 P, b599 P]
noncomputable def L3_15 (P : Params) : List Obj := [b600 P, b601 P, b602 P, b603 P, b604 P, b605 P, b606 P, b607 P, b608 P, b609 P, b610 P, b611 P, b612 P, b613 P, b614 P, b615 P, b616 P, b617 P, b618 P, b619 P, b620 P, b621 P, b622 P, b623 P, b624 P, b625 P, b626 P, b627 P, b628 P, b629 P, b630 P, b631 P, b632 P, b633 P, b634 P, b635 P, b636 P, b637 P, b638 P, b639 P]
noncomputable def L3_16 (P : Params) : List Obj := [b640 P, b641 P, b642 P, b643 P, b644 P, b645 P, b646 P, b647 P, b648 P, b649 P, b650 P, b651 P, b652 P, b653 P, b654 P, b655 P, b656 P, b657 P, b658 P, b659 P, b660 P, b661 P, b662 P, b663 P, b664 P, b665 P, b666 P, b667 P, b668 P, b669 P, b670 P, b671 P, b672 P, b673 P, b674 P, b675 P, b676 P, b677 P, b678 P, b679 P]
noncomputable def L3_17 (P : Params) : List Obj := [b680 P, b681 P, b682 P, b683 P, b684 P, b685 P, b686 P, b687 P, b688 P, b689 P, b690 P, b691 P, b692 P, b693 P, b694 P, b695 P, b696 P, b697 P, b698 P]
noncomputable def L3 (P : Params) : List Obj := L3_0 P ++ (L3_1 P ++ (L3_2 P ++ (L3_3 P ++ (L3_4 P ++ (L3_5 P ++ (L3_6 P ++ (L3_7 P ++ (L3_8 P ++ (L3_9 P ++ (L3_10 P ++ (L3_11 P ++ (L3_12 P ++ (L3_13 P ++ (L3_14 P ++ (L3_15 P ++ (L3_16 P ++ (L3_17 P)))))))))))))))))
noncomputable def odds {α : Type} : List α → List α
  | [] => []
  | [x] => [x]
  | x :: _ :: r => x :: odds r
noncomputable def evens {α : Type} : List α → List α
  | [] => []
  | [_] => []
  | _ :: y :: r => y :: evens r
noncomputable def mkT : Nat → List Obj → BT
  | 0, _ => .nil
  | _ + 1, [] => .nil
  | n + 1, o :: r => .node o (mkT n (odds r)) (mkT n (evens r))
noncomputable def env0 : Env := { scope := pw.main.scope, locals := mainNs, globals := mainNs, cells := [], code := .ref 13, frame := some 14 }
noncomputable abbrev cd0 : Code := .body (behindTheImports pw) env0
abbrev p0 : Pos := ⟨0, 0, 0, 0⟩
noncomputable abbrev B0 : List Frame := [topFrame p0]
noncomputable def stT (l : List Obj) (n toks : Nat) (os : OsState) : SharedT := { tree := mkT 12 l, n := n, life := { }, gens := Array.mk [], drawn := { }, toks := toks, os := os }
noncomputable def sts1 : List Stmt := (pw.main.body.drop 0).take 29
theorem seg1 (w : World) (os : OsState) : segRunT treeTable pw w 11 (some (.ref 6)) 1 1726 (stT (L0 w.params) 15 187 os) (piecesOf sts1 env0 cd0 p0 B0) = some (.next, stT (L1 w.params) 230 539 os, cd0, ⟨90, 0, 124, 16⟩) := by
  rw [PySem.W.Fast.te10110043849684766642, PySem.W.Fast.te14364793385576792824]
  kernel_rfl
noncomputable def sts2 : List Stmt := (pw.main.body.drop 29).take 18
theorem seg2 (w : World) (os : OsState) : segRunT treeTable pw w 11 (some (.ref 6)) 1 1391 (stT (L1 w.params) 230 539 os) (piecesOf sts2 env0 cd0 (⟨90, 0, 124, 16⟩ : Pos) B0) = some (.next, stT (L2 w.params) 461 873 os, cd0, ⟨367, 0, 367, 10⟩) := by
  rw [PySem.W.Fast.te10110043849684766642, PySem.W.Fast.te14364793385576792824]
  kernel_rfl
noncomputable def sts3 : List Stmt := (pw.main.body.drop 47).take 25
theorem seg3 (w : World) (os : OsState) : segRunT treeTable pw w 11 (some (.ref 6)) 1 1407 (stT (L2 w.params) 461 873 os) (piecesOf sts3 env0 cd0 (⟨367, 0, 367, 10⟩ : Pos) B0) = some (.next, stT (L3 w.params) 699 1232 os, cd0, ⟨622, 0, 632, 15⟩) := by
  rw [PySem.W.Fast.te10110043849684766642, PySem.W.Fast.te14364793385576792824]
  kernel_rfl
noncomputable def K (P : Params) : Frag := (nat_lit 2, b2 P):: (nat_lit 3, b3 P):: (nat_lit 20, b20 P):: (nat_lit 21, b21 P):: (nat_lit 29, b29 P):: (nat_lit 30, b30 P):: (nat_lit 36, b36 P):: (nat_lit 37, b37 P):: (nat_lit 43, b43 P):: (nat_lit 44, b44 P):: (nat_lit 50, b50 P):: (nat_lit 51, b51 P):: (nat_lit 57, b57 P):: (nat_lit 58, b58 P):: (nat_lit 64, b64 P):: (nat_lit 65, b65 P):: (nat_lit 67, b67 P):: (nat_lit 68, b68 P):: (nat_lit 78, b78 P):: (nat_lit 79, b79 P):: (nat_lit 92, b92 P):: (nat_lit 93, b93 P):: (nat_lit 95, b95 P):: (nat_lit 96, b96 P):: (nat_lit 112, b112 P):: (nat_lit 113, b113 P):: (nat_lit 119, b119 P):: (nat_lit 120, b120 P):: (nat_lit 126, b126 P):: (nat_lit 127, b127 P):: (nat_lit 133, b133 P):: (nat_lit 134, b134 P):: (nat_lit 140, b140 P):: (nat_lit 141, b141 P):: (nat_lit 143, b143 P):: (nat_lit 144, b144 P):: (nat_lit 152, b152 P):: (nat_lit 153, b153 P):: (nat_lit 157, b157 P):: (nat_lit 158, b158 P):: (nat_lit 166, b166 P):: (nat_lit 172, b172 P):: (nat_lit 173, b173 P):: (nat_lit 179, b179 P):: (nat_lit 180, b180 P):: (nat_lit 186, b186 P):: (nat_lit 187, b187 P):: (nat_lit 193, b193 P):: (nat_lit 194, b194 P):: (nat_lit 200, b200 P):: (nat_lit 201, b201 P):: (nat_lit 207, b207 P):: (nat_lit 208, b208 P):: (nat_lit 214, b214 P):: (nat_lit 215, b215 P):: (nat_lit 221, b221 P):: (nat_lit 222, b222 P):: (nat_lit 224, b224 P):: (nat_lit 225, b225 P):: (nat_lit 235, b235 P):: (nat_lit 236, b236 P):: (nat_lit 242, b242 P):: (nat_lit 243, b243 P):: (nat_lit 256, b256 P):: (nat_lit 257, b257 P):: (nat_lit 259, b259 P):: (nat_lit 260, b260 P):: (nat_lit 270, b270 P):: (nat_lit 271, b271 P):: (nat_lit 277, b277 P):: (nat_lit 278, b278 P):: (nat_lit 284, b284 P):: (nat_lit 285, b285 P):: (nat_lit 291, b291 P):: (nat_lit 292, b292 P):: (nat_lit 298, b298 P):: (nat_lit 299, b299 P):: (nat_lit 305, b305 P):: (nat_lit 306, b306 P):: (nat_lit 319, b319 P):: (nat_lit 320, b320 P):: (nat_lit 326, b326 P):: (nat_lit 327, b327 P):: (nat_lit 333, b333 P):: (nat_lit 334, b334 P):: (nat_lit 340, b340 P):: (nat_lit 341, b341 P):: (nat_lit 347, b347 P):: (nat_lit 348, b348 P):: (nat_lit 354, b354 P):: (nat_lit 355, b355 P):: (nat_lit 361, b361 P):: (nat_lit 362, b362 P):: (nat_lit 368, b368 P):: (nat_lit 369, b369 P):: (nat_lit 375, b375 P):: (nat_lit 376, b376 P):: (nat_lit 382, b382 P):: (nat_lit 383, b383 P):: (nat_lit 389, b389 P):: (nat_lit 390, b390 P):: (nat_lit 396, b396 P):: (nat_lit 397, b397 P):: (nat_lit 403, b403 P):: (nat_lit 404, b404 P):: (nat_lit 410, b410 P):: (nat_lit 411, b411 P):: (nat_lit 417, b417 P):: (nat_lit 418, b418 P):: (nat_lit 424, b424 P):: (nat_lit 425, b425 P):: (nat_lit 431, b431 P):: (nat_lit 432, b432 P):: (nat_lit 438, b438 P):: (nat_lit 439, b439 P):: (nat_lit 441, b441 P):: (nat_lit 442, b442 P):: (nat_lit 452, b452 P):: (nat_lit 453, b453 P):: (nat_lit 459, b459 P):: (nat_lit 460, b460 P):: (nat_lit 473, b473 P):: (nat_lit 474, b474 P):: (nat_lit 480, b480 P):: (nat_lit 481, b481 P):: (nat_lit 487, b487 P):: (nat_lit 488, b488 P):: (nat_lit 494, b494 P):: (nat_lit 495, b495 P):: (nat_lit 501, b501 P):: (nat_lit 502, b502 P):: (nat_lit 508, b508 P):: (nat_lit 509, b509 P):: (nat_lit 511, b511 P):: (nat_lit 512, b512 P):: (nat_lit 522, b522 P):: (nat_lit 523, b523 P):: (nat_lit 529, b529 P):: (nat_lit 530, b530 P):: (nat_lit 536, b536 P):: (nat_lit 537, b537 P):: (nat_lit 543, b543 P):: (nat_lit 544, b544 P):: (nat_lit 550, b550 P):: (nat_lit 551, b551 P):: (nat_lit 557, b557 P):: (nat_lit 558, b558 P):: (nat_lit 564, b564 P):: (nat_lit 565, b565 P):: (nat_lit 571, b571 P):: (nat_lit 572, b572 P):: (nat_lit 578, b578 P):: (nat_lit 579, b579 P):: (nat_lit 585, b585 P):: (nat_lit 586, b586 P):: (nat_lit 592, b592 P):: (nat_lit 593, b593 P):: (nat_lit 599, b599 P):: (nat_lit 600, b600 P):: (nat_lit 608, b608 P):: (nat_lit 614, b614 P):: (nat_lit 615, b615 P):: (nat_lit 621, b621 P):: (nat_lit 622, b622 P):: (nat_lit 628, b628 P):: (nat_lit 629, b629 P):: (nat_lit 635, b635 P):: (nat_lit 636, b636 P):: (nat_lit 638, b638 P):: (nat_lit 639, b639 P):: (nat_lit 647, b647 P):: (nat_lit 648, b648 P):: (nat_lit 654, b654 P):: (nat_lit 655, b655 P):: (nat_lit 659, b659 P):: (nat_lit 660, b660 P):: (nat_lit 666, b666 P):: (nat_lit 667, b667 P):: (nat_lit 673, b673 P):: (nat_lit 674, b674 P):: (nat_lit 680, b680 P):: (nat_lit 681, b681 P):: (nat_lit 685, b685 P):: (nat_lit 686, b686 P):: (nat_lit 692, b692 P):: (nat_lit 693, b693 P):: (nat_lit 697, b697 P):: (nat_lit 698, b698 P) :: []
noncomputable def asK : List Addr := [nat_lit 2, nat_lit 3, nat_lit 20, nat_lit 21, nat_lit 29, nat_lit 30, nat_lit 36, nat_lit 37, nat_lit 43, nat_lit 44, nat_lit 50, nat_lit 51, nat_lit 57, nat_lit 58, nat_lit 64, nat_lit 65, nat_lit 67, nat_lit 68, nat_lit 78, nat_lit 79, nat_lit 92, nat_lit 93, nat_lit 95, nat_lit 96, nat_lit 112, nat_lit 113, nat_lit 119, nat_lit 120, nat_lit 126, nat_lit 127, nat_lit 133, nat_lit 134, nat_lit 140, nat_lit 141, nat_lit 143, nat_lit 144, nat_lit 152, nat_lit 153, nat_lit 157, nat_lit 158, nat_lit 166, nat_lit 172, nat_lit 173, nat_lit 179, nat_lit 180, nat_lit 186, nat_lit 187, nat_lit 193, nat_lit 194, nat_lit 200, nat_lit 201, nat_lit 207, nat_lit 208, nat_lit 214, nat_lit 215, nat_lit 221, nat_lit 222, nat_lit 224, nat_lit 225, nat_lit 235, nat_lit 236, nat_lit 242, nat_lit 243, nat_lit 256, nat_lit 257, nat_lit 259, nat_lit 260, nat_lit 270, nat_lit 271, nat_lit 277, nat_lit 278, nat_lit 284, nat_lit 285, nat_lit 291, nat_lit 292, nat_lit 298, nat_lit 299, nat_lit 305, nat_lit 306, nat_lit 319, nat_lit 320, nat_lit 326, nat_lit 327, nat_lit 333, nat_lit 334, nat_lit 340, nat_lit 341, nat_lit 347, nat_lit 348, nat_lit 354, nat_lit 355, nat_lit 361, nat_lit 362, nat_lit 368, nat_lit 369, nat_lit 375, nat_lit 376, nat_lit 382, nat_lit 383, nat_lit 389, nat_lit 390, nat_lit 396, nat_lit 397, nat_lit 403, nat_lit 404, nat_lit 410, nat_lit 411, nat_lit 417, nat_lit 418, nat_lit 424, nat_lit 425, nat_lit 431, nat_lit 432, nat_lit 438, nat_lit 439, nat_lit 441, nat_lit 442, nat_lit 452, nat_lit 453, nat_lit 459, nat_lit 460, nat_lit 473, nat_lit 474, nat_lit 480, nat_lit 481, nat_lit 487, nat_lit 488, nat_lit 494, nat_lit 495, nat_lit 501, nat_lit 502, nat_lit 508, nat_lit 509, nat_lit 511, nat_lit 512, nat_lit 522, nat_lit 523, nat_lit 529, nat_lit 530, nat_lit 536, nat_lit 537, nat_lit 543, nat_lit 544, nat_lit 550, nat_lit 551, nat_lit 557, nat_lit 558, nat_lit 564, nat_lit 565, nat_lit 571, nat_lit 572, nat_lit 578, nat_lit 579, nat_lit 585, nat_lit 586, nat_lit 592, nat_lit 593, nat_lit 599, nat_lit 600, nat_lit 608, nat_lit 614, nat_lit 615, nat_lit 621, nat_lit 622, nat_lit 628, nat_lit 629, nat_lit 635, nat_lit 636, nat_lit 638, nat_lit 639, nat_lit 647, nat_lit 648, nat_lit 654, nat_lit 655, nat_lit 659, nat_lit 660, nat_lit 666, nat_lit 667, nat_lit 673, nat_lit 674, nat_lit 680, nat_lit 681, nat_lit 685, nat_lit 686, nat_lit 692, nat_lit 693, nat_lit 697, nat_lit 698]
-- SEGMENTS [(0, 28, 1725, 230, 539, '⟨90, 0, 124, 16⟩'), (29, 46, 1390, 461, 873, '⟨367, 0, 367, 10⟩'), (47, 71, 1406, 699, 1232, '⟨622, 0, 632, 15⟩')]; KEPT 187
end
-- H2
section
set_option maxRecDepth 1000000
noncomputable abbrev qv : Program := PySem.W.view pw [0, 2, 3, 5, 7, 8, 9, 10, 11, 12, 13, 14, 15, 16, 17, 18, 19, 20, 21, 22, 23, 24, 25, 26, 27, 28, 29, 30, 32, 33, 34, 35, 36, 37, 38, 40, 42, 43, 45, 46, 47, 48, 49, 50, 51, 52, 53, 54, 55, 56, 57, 58, 59, 61, 63, 64, 65, 66, 67, 68, 69, 70, 71]
abbrev lo : List Str := [Str.ofString "ParseState"]
abbrev rw1 : OpenLaw := PySem.Challenge.rw_np0101_01
theorem said1 : rw1.row.wellSaid = true := by rw [PySem.W.Fast.te17960256430627541270]; kernel_rfl
theorem said2 : noRoadLSs { strict := true, foot := some rw1.bound', writes := rw1.writes, may := rw1.may } rw1.footing = true := by rw [PySem.W.Fast.te8326940854005059898]; kernel_rfl
theorem said : rw1.wellSaid = true := by
  unfold OpenLaw.wellSaid
  rw [said1, said2]
  kernel_rfl
theorem open1 : ∀ w : World, (fencedOpening treeTable pw w 9200).map (fun s => (s.heap, s.gens, s.drawn, s.toks)) = some (boot_heap w.params, Array.mk [], boot_drawn, boot_toks) :=
  boot_open (p := pw) (by kernel_rfl) (by kernel_rfl) (fun s => by kernel_rfl)
theorem size1 (w : World) : ((boot_heap w.params).isNs mainGlobals && (Array.mk [] : Array GenState).size == 0, (boot_heap w.params).objs.size, (boot_heap w.params).nsMap mainGlobals "__annotations__") = (true, 11, some (.ref 6)) := by kernel_rfl
theorem pre1 (w : World) (os : OsState) : topGo treeTable pw w 11 (some (.ref 6)) 12 ⟨boot_heap w.params, Array.mk [], boot_drawn, boot_toks, os⟩ (topStub pw) =
    some (⟨{ objs := ⟨L0 w.params⟩, life := { } }, Array.mk [], { }, 187, os⟩, ⟨denote treeTable cd0, cd0, p0, B0⟩) := by
  rw [PySem.W.Fast.te15667345088766844465, PySem.W.Fast.te14364793385576792824, PySem.W.Fast.te11892475500146522536]; kernel_rfl
theorem blk1 (w : World) (os : OsState) : segRun treeTable pw w 11 (some (.ref 6)) 1 1 ⟨{ objs := ⟨L0 w.params⟩, life := { } }, Array.mk [], { }, 187, os⟩ (blockOf (behindTheImports pw) env0 cd0 p0 B0) =
    some (.next, (stT (L0 w.params) 15 187 os).abs, cd0, p0) := by
  rw [PySem.W.Fast.te14374325043358763698, PySem.W.Fast.te14364793385576792824]; kernel_rfl
theorem fin1 (w : World) (os : OsState) : topRun treeTable pw w 11 (some (.ref 6)) 2 (stT (L3 w.params) 699 1232 os).abs ⟨doneF .next, cd0, ⟨622, 0, 632, 15⟩, B0⟩ =
    some ⟨{ objs := ⟨L3 w.params⟩, life := { } }, Array.mk [], { }, 1232, os⟩ := by
  rw [PySem.W.Fast.te14082659384304107361, PySem.W.Fast.te14364793385576792824]; kernel_rfl
theorem run1 (w : World) (os : OsState) : topRun treeTable pw w 11 (some (.ref 6)) (12 + (1 + (1726 + (1391 + (1407 + 2))))) ⟨boot_heap w.params, Array.mk [], boot_drawn, boot_toks, os⟩ (topStub pw) =
    some ⟨{ objs := ⟨L3 w.params⟩, life := { } }, Array.mk [], { }, 1232, os⟩ := by
  refine go_top (pre1 w os) (piece_block (blk1 w os) ?_)
  have e : behindTheImports pw = sts1 ++ (sts2 ++ (sts3 ++ [])) := by kernel_rfl
  have h := piece_app (q := p0) (segRun_of (seg1 w os)) (piece_app (q := p0) (segRun_of (seg2 w os)) (piece_app (q := p0) (segRun_of (seg3 w os)) (piece_nil (q := p0) (env := env0) (fin1 w os))))
  rw [← e] at h
  exact h
noncomputable abbrev xt : Shared → Bool := fun s => xlAt qv [] s && recOk (RowW.records rw1.row.toRowW) s
noncomputable def hook : Hook := kHook K asK (fun _ => by kernel_rfl)
noncomputable abbrev hF (w : World) : Heap := { objs := ⟨L3 w.params⟩, life := { } }
theorem look1 (w : World) : (fun os => (staticsOk (importedModules pw.main.body) (boot_heap w.params) (hF w) && namesBound pw (hF w) && gensDone ⟨hF w, Array.mk [], { }, 1232, os⟩ && laidKept (boot_heap w.params) (hF w))) = fun _ : OsState => true := by kernel_rfl
theorem look2 (w : World) : (fun os => openSeen qv lo (importedModules pw.main.body) xt true ⟨hF w, Array.mk [], { }, 1232, os⟩) = fun _ : OsState => openGood qv lo := by
  rw [PySem.W.Fast.te4187177175401517315]; kernel_rfl
theorem look3 (w : World) : (fun os : OsState => hook.obs ⟨hF w, Array.mk [], { }, 1232, os⟩) = fun _ : OsState => hook.val w := by kernel_rfl
theorem left1 : LeftO pw qv lo xt hook.obs hook.val 9200 true :=
  LeftO.of_pieces (H₀ := boot_heap) (H₁ := fun P => { objs := ⟨L3 P⟩, life := { } }) (M := 12 + (1 + (1726 + (1391 + (1407 + 2))))) open1 size1 run1 (by decide) (fun w => by
    have a := look1 w
    have b := look2 w
    have c := look3 w
    funext os
    exact Prod.ext (congrFun a os) (Prod.ext (congrFun b os) (congrFun c os)))
theorem hd {d : DefRec} {kwd : List (Str × Expr)} (hdef : defOf qv rw1.row.name = some (d, kwd)) (hp : rw1.row.prog.theDef rw1.row.name = some (d.params, d.body, d.scope)) (hk : kwWritten? d.params.kwonlyargs d.params.kw_defaults = some kwd)
    (call : WalkO qv lo (XL qv []) hook.says rw1.row.toRowW d kwd fun f vs => PySem.call f vs) : rw1.Holds :=
  holds_law said fun s2 => holds_open (r := rw1.row) (q := qv) (loose := lo) (Xt := xt) (XP := XL qv []) (Yf := hook.obs) (Ya := hook.val) (YP := hook.says) (N := 9200) left1 hook.of hook.keeps (fun s e => xl_of s (Bool.and_eq_true_iff.mp e).1) XL.keeps
    hdef hp hk (fun s e => recFacts_of (Bool.and_eq_true_iff.mp e).2) rfl s2 (by decide +kernel) ⟨rfl, rfl, rfl, rfl, rfl, by decide +kernel⟩ (by w_witness2) call
end
-- A0
noncomputable section
set_option maxRecDepth 100000
abbrev Led := List (Addr × Obj)

abbrev Pg : Program := PySem.Challenge.rw_np0101_01.row.prog
abbrev Tp (mean : ExcName → Option Value) (mg mb : Str → Option Value) (h : Heap) : Prop := Top qv (looseW qv [Str.ofString "ParseState"]) mean mg mb h

noncomputable def Kept (h : Heap) (news : Led) (h' : Heap) : Prop := ∀ b o, h.get? b = some o → (∀ p ∈ news, p.1 ≠ b) → h'.get? b = some o

theorem Kept.of_frame {h g h' : Heap} {news : Led} {L : Addr} {m : Str → Option Value} (hg : ∀ b o, h.get? b = some o → (∀ p ∈ news, p.1 ≠ b) → g.get? b = some o) (F : Fr g L h' m) : Kept h news h' :=
  fun b o e n => F.keep b o (hg b o e n)

/-- entering a def of the written part: what stands behind the call and is not named on the ledger stays as it is -/
theorem enter {w : World} {A A₀ : Around} {s : Shared} {L : Addr} {h₀ base : Heap} {m mg mb : Str → Option Value} {news : Led} {mean : ExcName → Option Value} {env : Env} {outer : List Env} {R : Result → Shared → Prop} {name qual : Str} {params : Arguments} {body : List Stmt} {scope : Scope} {dV kV doc pm cdv ct oc : Value} {an od : Option Addr} {osl : Array (Option Value)} {f : Addr} {args : Args} {binds : List (Str × Value)}
    (B : Below A₀ base outer h₀) (F : Fr h₀ L s.heap m) (X₀ : (K w.params).In h₀) (N : News h₀ L s.heap news) (T : Tp mean mg mb h₀) (hA : A.frames = some (env :: outer)) (hf : env.frame = some L) (hke : env.scope.kind = .function)
    (ho : (K w.params).lookup f = some ⟨oc, od, .func (fnOf name qual params body scope dV kV doc pm an cdv ct), osl⟩) (hcd : codeIn (K w.params) cdv qual = true) (hroom : A.depth < recursionLimit)
    (hbind : BindsTo s (fnOf name qual params body scope dV kV doc pm an cdv ct) args binds) (hloc : ∀ y ∈ binds, scope.names.lookup y.1 = some .local)
    (h : ∀ g L' h₁ tk, Fr h₀ L g m → Fr g L' h₁ (fun y => binds.reverse.lookup y) → News g L' h₁ news → Below A base (env :: outer) g → (K w.params).In g → Tp mean mg mb g →
      (∀ b o, s.heap.get? b = some o → (∀ p ∈ news, p.1 ≠ b) → g.get? b = some o) →
      wpAny (model Pg w) (A.deeper (envOf qual scope L' f cdv)) (execs body (envOf qual scope L' f cdv))
        (fun fl s' => LeaveK h₀ L m g R (match fl with | .ret v => v | _ => .none) s')
        (fun e s' => wpAny (model Pg w) (A.deeper (envOf qual scope L' f cdv)) (leaving (envOf qual scope L' f cdv) e) (fun _ s'' => R (.error e) s'') (fun e' s'' => R (.error e') s'') s')
        { s with heap := h₁, toks := tk })
    (hco : scope.isCoroutine = false) (hgen : scope.isGenerator = false) (hk : scope.kind = .function)
    (hcell : ∀ x ∈ scope.names, x.2 ≠ .cell) : codeAny (model Pg w) A (.call (.ref f) args) R s := by
  obtain ⟨FG, BG, st, lv⟩ := groundX (R := R) B F N hA hf hke
  refine codeAny_call_def (fd := fnOf name qual params body scope dV kV doc pm an cdv ct) (body := body) (binds := binds) hroom ((X₀.keeps F.keep) _ _ ho) rfl (T.nolimit.keeps F.keep) (codeRec_of (X₀.keeps F.keep) hcd) rfl hbind hcell hloc (fun h₁ hns hk₁ => ?_) hco hgen hk
  have np : ∀ b, (∀ p ∈ news, p.1 ≠ b) → b ∉ news.map (·.1) := fun b n q => by
    obtain ⟨p, hp, e⟩ := List.mem_map.mp q
    exact n p hp e
  exact wpAny_mono (h _ s.heap.objs.size h₁ _ FG ⟨hns, fun b o e => hk₁ b o (of_hideAll _ e), Nat.le_of_eq (hideAll_size _ _)⟩
    (fun p hp => ⟨hk₁ _ _ (N p hp).1, Nat.ne_of_lt (Heap.lt_size (N p hp).1), hideAll_none _ (List.mem_map_of_mem hp)⟩) BG (X₀.keeps st) (T.keeps st)
    (fun b o e n => hideAll_get _ e (np b n))) (fun fl s' hl => lv _ _ hl) fun _ _ y => y

/-- a contract: the call of the def at f with vs, from any def's frame; P is said of a part of the heap that the ledger does not touch -/
noncomputable def Does (w : World) (d u : Nat) (P : Heap → Prop) (f : Addr) (vs : List Value) (news : Led) (R : Value → Led → Prop) : Prop :=
  ∀ (mean : ExcName → Option Value) (mg mb : Str → Option Value) (dp un : Nat) (gd : Option (List Code)) (cn : Str) (cs : Scope) (a : Addr) (ccd : Value) (cl : List (Str × Addr)) (outer : List Env) (A₀ : Around) (base h₀ : Heap) (L : Addr) (m : Str → Option Value) (s : Shared) (g₀ : Heap)
    (Q E : Value → Shared → Prop),
    Below A₀ base outer h₀ → Fr h₀ L s.heap m → (K w.params).In h₀ → News h₀ L s.heap news → Tp mean mg mb h₀ → cs.kind = .function →
    P g₀ → g₀.StaysIn s.heap → (∀ p ∈ news, g₀.get? p.1 = none) → dp + d < recursionLimit → un + u < cLine →
    (∀ r nx h' tk', Fr h₀ L h' m → News h₀ L h' nx → Kept s.heap news h' → R r nx → Q r { s with heap := h', toks := tk' }) →
    wpAny (model Pg w) (ktrTop dp un gd cn cs L a ccd cl outer) (call (.ref f) vs) Q E s

/-- P is not lost where the heap grows -/
noncomputable def Mono (P : Heap → Prop) : Prop := ∀ g g' : Heap, g.StaysIn g' → P g → P g'

theorem stays_of {h g₀ g : Heap} {news : Led} (st : g₀.StaysIn h) (dj : ∀ p ∈ news, g₀.get? p.1 = none) (hg : ∀ b o, h.get? b = some o → (∀ p ∈ news, p.1 ≠ b) → g.get? b = some o) : g₀.StaysIn g :=
  fun b o e => hg b o (st b o e) fun p hp q => by rw [← q, dj p hp] at e; cases e

theorem inst_mono {h h' : Heap} {x C : Addr} {ox : Obj} {od : Option Obj} (k : ∀ b o, h.get? b = some o → h'.get? b = some o) (I : InstAt h x ox C od) : InstAt h' x ox C od := by
  obtain ⟨a, b, c, d⟩ := I
  refine ⟨k _ _ a, b, c, ?_⟩
  revert d
  cases ox.dict <;> cases od <;> intro d <;> first | exact d | exact k _ _ d

noncomputable def IsI (v : Value) (x : Int) : Prop := ∃ t, v = .int x t
theorem IsI.of {x y : Int} {t : Tok} (h : x = y) : IsI (.int x t) y := ⟨t, by rw [h]⟩
noncomputable def IsS (v : Value) (x : Str) : Prop := ∃ t, v = .str x t
theorem IsS.of {x y : Str} {t : Tok} (h : x = y) : IsS (.str x t) y := ⟨t, by rw [h]⟩

theorem News.all_back {h₀ h h' : Heap} {L : Addr} {news t t' : Led} (N : News h₀ L h news) (k : Kept h t h') (d : ∀ p ∈ news, ∀ q ∈ t, q.1 ≠ p.1) (N' : News h₀ L h' t') : News h₀ L h' (t' ++ news) := fun p hp => by
  rcases List.mem_append.mp hp with hp | hp
  · exact N' p hp
  · exact ⟨k _ _ (N p hp).1 (d p hp), (N p hp).2⟩
end
noncomputable section
set_option maxRecDepth 100000
theorem cps {T : Prop} (h : ∀ G : Prop, (T → G) → G) : T := h T id
theorem room {a d D R : Nat} (h : a + D < R) (e : Nat.ble (1 + d) D = true) : a + 1 + d < R := by
  have := Nat.le_of_ble_eq_true e
  omega
theorem room0 {a D R : Nat} (h : a + D < R) : a < R := Nat.lt_of_le_of_lt (Nat.le_add_right _ _) h
theorem unitsN {a d D R : Nat} (h : a + D < R) (e : Nat.ble (3 + d) D = true) : a + 3 + d < R := by
  have := Nat.le_of_ble_eq_true e
  omega
theorem sub1 {a : Addr × Obj} {l : Led} (x : a ∈ l) : ∀ p ∈ [a], p ∈ l := List.forall_mem_cons.mpr ⟨x, List.forall_mem_nil _⟩
theorem sub2 {a b : Addr × Obj} {l : Led} (x : a ∈ l) (y : b ∈ l) : ∀ p ∈ [a, b], p ∈ l := List.forall_mem_cons.mpr ⟨x, sub1 y⟩
theorem sub3 {a b c : Addr × Obj} {l : Led} (x : a ∈ l) (y : b ∈ l) (z : c ∈ l) : ∀ p ∈ [a, b, c], p ∈ l := List.forall_mem_cons.mpr ⟨x, sub2 y z⟩
theorem letA {M : Model} {A : Around} {α : Type} {c : Sem α} {Q : α → Shared → Prop} {E : Value → Shared → Prop} {s : Shared} (h : let A' := A; wpAny M A' c Q E s) : wpAny M A c Q E s := h
end
set_option hygiene false in
local macro_rules | `(tactic| walk_at "mine:p") => `(tactic| ((case uB => k_asm); (case uF => k_asm); (case uX => k_asm); (case uT => k_asm); (case uk => exact rfl); (case uN => k_asm); (case ust => exact Fr.keep (by k_asm)); (case uP => first | assumption | exact ⟨by assumption, by assumption⟩); (case ud => ktr_room); (case uu => ktr_units)))
set_option hygiene false in
local macro_rules | `(tactic| walk_at "mine:l") => `(tactic| ((case uB => k_asm); (case uF => k_asm); (case uX => k_asm); (case uT => k_asm); (case uk => exact rfl); (case uN => k_asm); (case usub => (first | (refine sub1 ?_; k_mem) | (refine sub2 ?_ ?_; k_mem; k_mem) | (refine sub3 ?_ ?_ ?_; k_mem; k_mem; k_mem) | ((repeat (refine' List.forall_mem_cons.mpr ⟨?_, ?_⟩; focus k_mem)); exact List.forall_mem_nil _))); (try (case hlt => assumption)); (try (case hlt2 => assumption)); (try (case hwh => first | assumption | exact opt_none | exact opt_int _ _)); (try (case hwo => first | assumption | exact opt_none | exact opt_int _ _)); (try (case hvs => assumption)); (try (case hz => first | assumption | exact Nat.le_trans (by rw [List.length_dropLast]; exact Nat.sub_le _ _) (by assumption))); (case uP => first | exact any_any _ | assumption | exact ⟨by assumption, by assumption⟩); (case ud => ktr_room); (case uu => ktr_units)))
set_option hygiene false in
local macro_rules | `(tactic| walk_at "mine:n") => `(tactic| ((case uB => k_asm); (case uF => k_asm); (case uX => k_asm); (case uT => k_asm); (case uk => exact rfl); (case uN => k_asm); (case uP => first | exact any_any _ | assumption | exact ⟨by assumption, by assumption⟩); (case ud => ktr_room); (case uu => ktr_units)))
set_option hygiene false in
local macro_rules | `(tactic| walk_at "mine:c") => `(tactic| ((case uB => k_asm); (case uF => k_asm); (case uX => k_asm); (case uN => k_asm); (case uT => k_asm); (case u1 => exact rfl); (case u2 => exact rfl); (case u3 => exact rfl); (case ud => ktr_room); k_whole; intro xZ hZ tkZ nxZ FZ NZ hSZ))
set_option hygiene false in
local macro_rules | `(tactic| walk_at "mine:s") => `(tactic| ((refine IsScan.elimL hSZ NZ ?_; clear hSZ NZ; intro dxZ hhZ kkZ hltZ NZ); (try dsimp only at NZ)))
set_option hygiene false in
local macro_rules | `(tactic| walk_at "mine:w") => `(tactic| ((refine IsWalk.elimL hSZ NZ ?_; clear hSZ NZ; intro dxZ lcZ hhZ kkZ beZ leZ whZ woZ vsZ isZ nZ hltZ hlt2Z hwhZ hwoZ hvsZ hzZ NZ); (try dsimp only at NZ)))
set_option hygiene false in
local macro_rules | `(tactic| walk_at "mine:x") => `(tactic| ((intro eZ gZ hZ tkZ THZ hXZ; (try dsimp only at hXZ); (show wpAny _ _ (leaving _ _) _ _ _); refine leave_onD rfl rfl (by assumption) (News.sub (by assumption) (by (first | (refine sub1 ?_; k_mem) | (refine sub2 ?_ ?_; k_mem; k_mem) | (refine sub3 ?_ ?_ ?_; k_mem; k_mem; k_mem) | ((repeat (refine' List.forall_mem_cons.mpr ⟨?_, ?_⟩; focus k_mem)); exact List.forall_mem_nil _)))) THZ (by assumption) (hout_of (by assumption) (by assumption) rfl) ?_; intro h5Z TH5Z)))
set_option hygiene false in
local macro_rules | `(tactic| walk_at "mine:f") => `(tactic| ((try simp only [List.cons_append, List.nil_append] at NZ); (try k_sweep); (try dsimp only)))
local macro_rules | `(tactic| k_in) => `(tactic| first | with_reducible assumption | (refine' Frag.In.keeps ?kinX (Fr.keep ?kinF); (case kinF => with_reducible assumption); (case kinX => with_reducible assumption)) | fail "none")
local macro_rules | `(tactic| k_unfold) => `(tactic| ((with_reducible show WhileStep2 _ _ _ _ _ _ (Flow.ret _) _); dsimp only [WhileStep2]))
set_option hygiene false in
local macro_rules | `(tactic| ktr_room) => `(tactic| first | exact room (by with_reducible assumption) rfl | exact room0 (by with_reducible assumption) | decide | fail "none")
set_option hygiene false in
local macro_rules | `(tactic| ktr_units) => `(tactic| first | exact unitsN (by with_reducible assumption) rfl | decide | fail "none")
local macro_rules | `(tactic| k_ne) => `(tactic| first | exact Nat.ne_of_lt (by with_reducible assumption) | exact Nat.ne_of_gt (by with_reducible assumption) | fail "none")
local macro_rules | `(tactic| lcg_src) => `(tactic| ((show _ ∈ _); k_mem))
local macro_rules | `(tactic| k_inst) => `(tactic| (refine' inst_mono ?kinF ?kinI; (case kinF => exact Fr.keep (by k_asm)); (case kinI => first | with_reducible assumption | assumption)))
-- A1
noncomputable section
set_option maxRecDepth 100000
-- the written part is read once
theorem filled : (PySem.Challenge.rw_np0101_01 = PySem.Challenge.rw_np0101_01) ∧ (K = K) := by
  k_fill
  exact ⟨rfl, rfl⟩

/-- a row of signs: its numbers at its list, the first place is 1 -/
noncomputable def IsView (codes : List Int) (v : Addr) (h : Heap) : Prop :=
  ∃ (dv lc : Addr) (h1 h2 : Int) (k1 k2 t : Tok) (vs : List Value) (n : Nat), InstAt h v (instObj 639 dv) 639 (some (dictOf [⟨h1, .str (Str.ofString "codes") k1, .ref lc⟩, ⟨h2, .str (Str.ofString "place") k2, .int 1 t⟩] 2)) ∧ h.IsList lc vs.toArray ∧ IntsAre vs codes

theorem isView_mono (codes : List Int) (v : Addr) : Mono (IsView codes v) := by
  rintro g g' k ⟨dv, lc, h1, h2, k1, k2, t, vs, n, I, Ll, i⟩
  exact ⟨dv, lc, h1, h2, k1, k2, t, vs, n, inst_mono k I, stays_list k Ll, i⟩

set_option maxHeartbeats 4000000 in
theorem code_at_does (w : World) (codes : List Int) (v : Addr) (p : Int) (t : Tok) (hp : -100 ≤ p ∧ p ≤ 100) (hc : codes.length ≤ 100) :
    Does w 1 8 (IsView codes v) 636 [.ref v, .int p t] [] (fun r nx => nx = [] ∧ IsI r (if 1 ≤ p ∧ p < 1 + codes.length then codes.getD (p - 1).toNat 0 else -1)) := by
  unfold Does
  intro mean mg mb dp un gd cn cs a ccd cl outer A₀ base h₀ L m s g₀ Q E B F X N T hk hP st dj hd hu hret
  refine wpAny_call ?_
  k_dflt (refine' enter (binds := [(Str.ofString "self", .ref v), (Str.ofString "place", .int p t)]) ?k1 ?k2 ?k3 ?k4 ?k5 ?kA ?kF ?kK ?k6 ?k7 ?k8 ?k9 ?kB ?_ ?c2 ?c3 ?c4 ?c5; (case kA => exact rfl); (case kF => exact rfl); (case kK => assumption); (case k1 => k_asm); (case k2 => k_asm); (case k3 => k_asm); (case k4 => k_asm); (case k5 => k_asm); (case k6 => k_is); (case k7 => k_is); (case k8 => ktr_room); (case k9 => exact BindsTo.of_eq rfl); (case c5 => decide); (case kB => exact locs rfl); (case c2 => exact rfl); (case c3 => exact rfl); (case c4 => exact rfl); k_whole; intro g' L' h' tk0 FG' F' N' B' X' T' hg'; (try dsimp only); (try k_fold); (try (refine letA ?_; intro Ak)))
  (refine cps ?_; intro G9 out9)
  obtain ⟨dv, lc, h1, h2, k1, k2, t1, vs, n, I, Ll, i⟩ := isView_mono _ _ _ _ (stays_of st dj hg') hP
  (refine out9 ?_; clear out9 G9)

  (repeat' (first | (k_unfold; (try dsimp only)) | (k_end; kc_close) | ((with_reducible show wpAny _ _ (execs (_ :: _) _) _ _ _); (with_reducible refine wpAny_execs_cons ?_); first | k_fold | (try dsimp only)) | (k_closed; first | ((with_reducible refine ite_pos ?_ ?_); (focus (k_dflt decide))) | ((with_reducible refine ite_neg ?_ ?_); (focus (k_dflt decide)))) | walk1 | (dsimp only; walk1) | (leave1; (try dsimp only))))
  all_goals (refine hret _ _ _ _ (by assumption) (by assumption) (Kept.of_frame hg' (by assumption)) ⟨rfl, IsI.of ?_⟩)
  · rw [if_pos ⟨by assumption, by assumption⟩]
  · rw [if_neg (by omega)]
  · rw [if_neg (by omega)]
end
-- A2
noncomputable section
set_option maxRecDepth 100000
/-- a contract is used from a walk: nothing on the ledger is handed over -/
theorem Does.pure {w : World} {d u : Nat} {P : Heap → Prop} {f : Addr} {vs : List Value} {R : Value → Prop} (D : Does w d u P f vs [] (fun r nx => nx = [] ∧ R r))
    {mean : ExcName → Option Value} {mg mb : Str → Option Value} {dp un : Nat} {gd : Option (List Code)} {cn : Str} {cs : Scope} {a : Addr} {ccd : Value} {cl : List (Str × Addr)} {outer : List Env} {A₀ : Around} {base h₀ : Heap} {L : Addr} {m : Str → Option Value} {s : Shared} {g₀ : Heap} {news : Led}
    {Q E : Value → Shared → Prop} (B : Below A₀ base outer h₀) (F : Fr h₀ L s.heap m) (X : (K w.params).In h₀) (N : News h₀ L s.heap news) (T : Tp mean mg mb h₀) (hk : cs.kind = .function) (hP : P g₀) (st : g₀.StaysIn s.heap) (hd : dp + d < recursionLimit) (hu : un + u < cLine)
    (k : ∀ r h' tk', Fr h₀ L h' m → News h₀ L h' news → (∀ b o, s.heap.get? b = some o → h'.get? b = some o) → R r → Q r { s with heap := h', toks := tk' }) :
    wpAny (model Pg w) (ktrTop dp un gd cn cs L a ccd cl outer) (call (.ref f) vs) Q E s :=
  D mean mg mb dp un gd cn cs a ccd cl outer A₀ base h₀ L m s g₀ Q E B F X (fun _ h => nomatch h) T hk hP st (fun _ h => nomatch h) hd hu fun r nx h' tk' F' N' kp ⟨_, hr⟩ =>
    k r h' tk' F' (fun p hp => ⟨kp _ _ (N p hp).1 (fun _ h => nomatch h), (N p hp).2⟩) (fun b o e => kp b o e (fun _ h => nomatch h)) hr

section
variable {M : Model} {prog : Program} {w : World} {A : Around} {E : Value → Shared → Prop} {s : Shared}
theorem mapOf_mono {K : Type} [DecidableEq K] {knd : PySem.KeyKind prog w K} {h h' : Heap} {a : Addr} {f : K → Option Value} (k : ∀ b o, h.get? b = some o → h'.get? b = some o) (x : h.MapOf knd a f) : h'.MapOf knd a f := by
  obtain ⟨o, es, ep, e, r⟩ := x
  exact ⟨o, es, ep, k _ _ e, r⟩
theorem map_getMethod {pl : Sem Bool} {d : Addr} {f : Int → Option Value} {Q : Value × List Value → Shared → Prop} (hm : s.heap.MapOf (intKind prog w) d f) (h : Q (.builtin "dict.get", [.ref d]) s) :
    wpAny (model prog w) A (getMethod (.ref d) "get" pl) Q E s := getMethod_builtin hm.typeIs PySem.F.plainAttrs_dict PySem.F.slot_dict_get PySem.F.type_dict_get hm.noDict h
theorem map_get2 {d : Addr} {f : Int → Option Value} {i : Int} {t : Tok} {dflt v : Value} {Q : Value → Shared → Prop} (hm : s.heap.MapOf (intKind prog w) d f) (lo : (d == sysModules) = false) (hf : f i = some v) (h : Q v { s with toks := s.toks + 1 }) :
    wpAny (model prog w) A (call (.builtin "dict.get") [.ref d, .int i t, dflt]) Q E s :=
  call_meetsIn PySem.F.slot_dict_get hm.typeIs PySem.F.entry_dict_get (PySem.F.args_dict_get_3 _ _ _) (meets_dict_get_default (intKind prog w) d (intKind_is prog w i t) lo dflt) ⟨_, hm, by rw [hf]; exact h⟩
end

/-- the four signs' codes -/
noncomputable def Four (c : Int) : Prop := c = 40 ∨ c = 41 ∨ c = 97 ∨ c = 32
@[irreducible] def kd (c : Int) : Str := if c = 40 then Str.ofString "(" else if c = 41 then Str.ofString ")" else if c = 97 then Str.ofString "w" else Str.ofString " "
structure Ar where
  (v t x40 x41 x97 x32 : Addr)
@[irreducible] def Ar.syn (e : Ar) (c : Int) : Addr := if c = 40 then e.x40 else if c = 41 then e.x41 else if c = 97 then e.x97 else e.x32
/-- a sign's syntax -/
noncomputable def IsSyn (k : Str) (x : Addr) (h : Heap) : Prop :=
  ∃ (d : Addr) (h1 h2 h3 : Int) (k1 k2 k3 t1 t3 : Tok) (mv : Value), InstAt h x (instObj 144 d) 144 (some (dictOf [⟨h1, .str (Str.ofString "kind") k1, .str k t1⟩, ⟨h2, .str (Str.ofString "match") k2, mv⟩, ⟨h3, .str (Str.ofString "flags") k3, .str (Str.ofString "") t3⟩] 3))
theorem isSyn_mono (k : Str) (x : Addr) : Mono (IsSyn k x) := by
  rintro g g' st ⟨d, h1, h2, h3, k1, k2, k3, t1, t3, mv, I⟩
  exact ⟨d, h1, h2, h3, k1, k2, k3, t1, t3, mv, inst_mono st I⟩
noncomputable def IsTable (w : World) (e : Ar) (h : Heap) : Prop :=
  ∃ (dt rd : Addr) (h1 h2 : Int) (k1 k2 : Tok) (f : Int → Option Value), InstAt h e.t (instObj 225 dt) 225 (some (dictOf [⟨h1, .str (Str.ofString "parent") k1, .none⟩, ⟨h2, .str (Str.ofString "rows") k2, .ref rd⟩] 2)) ∧
    h.MapOf (intKind Pg w) rd f ∧ (rd == sysModules) = false ∧ ∀ c, Four c → f c = some (.ref (e.syn c)) ∧ IsSyn (kd c) (e.syn c) h
theorem isTable_mono (w : World) (e : Ar) : Mono (IsTable w e) := by
  rintro g g' st ⟨dt, rd, h1, h2, k1, k2, f, I, hm, lo, hc⟩
  exact ⟨dt, rd, h1, h2, k1, k2, f, inst_mono st I, mapOf_mono st hm, lo, fun c h => ⟨(hc c h).1, isSyn_mono _ _ _ _ st (hc c h).2⟩⟩

set_option maxHeartbeats 4000000 in
theorem has_does (w : World) (k : Str) (x : Addr) (fl : Str) (t : Tok) (hfl : (Builtin.Str.occurrences (Str.ofString "") fl 0 (Str.ofString "").length 1).isEmpty = true) :
    Does w 1 8 (IsSyn k x) 120 [.ref x, .str fl t] [] (fun r nx => nx = [] ∧ r = .bool false) := by
  unfold Does
  intro mean mg mb dp un gd cn cs a ccd cl outer A₀ base h₀ L m s g₀ Q E B F X N T hk hP st dj hd hu hret
  refine wpAny_call ?_
  k_dflt (refine' enter (binds := [(Str.ofString "self", .ref x), (Str.ofString "flag", .str fl t)]) ?k1 ?k2 ?k3 ?k4 ?k5 ?kA ?kF ?kK ?k6 ?k7 ?k8 ?k9 ?kB ?_ ?c2 ?c3 ?c4 ?c5; (case kA => exact rfl); (case kF => exact rfl); (case kK => assumption); (case k1 => k_asm); (case k2 => k_asm); (case k3 => k_asm); (case k4 => k_asm); (case k5 => k_asm); (case k6 => k_is); (case k7 => k_is); (case k8 => ktr_room); (case k9 => first | exact BindsTo.of_eq rfl | exact binds_K (by k_in) rfl (by k_is) rfl rfl rfl); (case c5 => decide); (case kB => exact locs rfl); (case c2 => exact rfl); (case c3 => exact rfl); (case c4 => exact rfl); k_whole; intro g' L' h' tk0 FG' F' N' B' X' T' hg'; (try dsimp only); (try k_fold); (try (refine letA ?_; intro Ak)))
  (refine cps ?_; intro G9 out9)
  obtain ⟨d, h1, h2, h3, k1, k2, k3, t1, t3, mv, I⟩ := isSyn_mono _ _ _ _ (stays_of st dj hg') hP
  (refine out9 ?_; clear out9 G9)
  (repeat' (first | (k_unfold; (try dsimp only)) | (k_end; kc_close) | ((with_reducible show wpAny _ _ (execs (_ :: _) _) _ _ _); (with_reducible refine wpAny_execs_cons ?_); first | k_fold | (try dsimp only)) | (k_closed; first | ((with_reducible refine ite_pos ?_ ?_); (focus (k_dflt decide))) | ((with_reducible refine ite_neg ?_ ?_); (focus (k_dflt decide)))) | walk1 | (dsimp only; walk1) | (leave1; (try dsimp only))))
  all_goals (refine hret _ _ _ _ (by assumption) (by assumption) (Kept.of_frame hg' (by assumption)) ⟨rfl, ?_⟩)
  rw [hfl]; rfl

set_option maxHeartbeats 4000000 in
theorem is_escape_does (w : World) (k : Str) (x : Addr) (hk1 : k ≠ Str.ofString "\\") (hk2 : k ≠ Str.ofString "/") :
    Does w 1 8 (IsSyn k x) 127 [.ref x] [] (fun r nx => nx = [] ∧ r = .bool false) := by
  unfold Does
  intro mean mg mb dp un gd cn cs a ccd cl outer A₀ base h₀ L m s g₀ Q E B F X N T hk hP st dj hd hu hret
  refine wpAny_call ?_
  k_dflt (refine' enter (binds := [(Str.ofString "self", .ref x)]) ?k1 ?k2 ?k3 ?k4 ?k5 ?kA ?kF ?kK ?k6 ?k7 ?k8 ?k9 ?kB ?_ ?c2 ?c3 ?c4 ?c5; (case kA => exact rfl); (case kF => exact rfl); (case kK => assumption); (case k1 => k_asm); (case k2 => k_asm); (case k3 => k_asm); (case k4 => k_asm); (case k5 => k_asm); (case k6 => k_is); (case k7 => k_is); (case k8 => ktr_room); (case k9 => first | exact BindsTo.of_eq rfl | exact binds_K (by k_in) rfl (by k_is) rfl rfl rfl); (case c5 => decide); (case kB => exact locs rfl); (case c2 => exact rfl); (case c3 => exact rfl); (case c4 => exact rfl); k_whole; intro g' L' h' tk0 FG' F' N' B' X' T' hg'; (try dsimp only); (try k_fold); (try (refine letA ?_; intro Ak)))
  (refine cps ?_; intro G9 out9)
  obtain ⟨d, h1, h2, h3, k1, k2, k3, t1, t3, mv, I⟩ := isSyn_mono _ _ _ _ (stays_of st dj hg') hP
  (refine out9 ?_; clear out9 G9)
  (repeat' (first | (k_unfold; (try dsimp only)) | (k_end; kc_close) | ((with_reducible show wpAny _ _ (execs (_ :: _) _) _ _ _); (with_reducible refine wpAny_execs_cons ?_); first | k_fold | (try dsimp only)) | (k_closed; first | ((with_reducible refine ite_pos ?_ ?_); (focus (k_dflt decide))) | ((with_reducible refine ite_neg ?_ ?_); (focus (k_dflt decide)))) | walk1 | (dsimp only; walk1) | (leave1; (try dsimp only))))
  all_goals (refine hret _ _ _ _ (by assumption) (by assumption) (Kept.of_frame hg' (by assumption)) ⟨rfl, ?_⟩)
  · rw [beq_eq_false_iff_ne.mpr hk1]
  · rw [beq_eq_false_iff_ne.mpr hk2]

set_option maxHeartbeats 4000000 in
theorem is_word_part_does (w : World) (k : Str) (x : Addr) (hk2 : k ≠ Str.ofString "_") :
    Does w 1 8 (IsSyn k x) 134 [.ref x] [] (fun r nx => nx = [] ∧ r = .bool (decide (k = Str.ofString "w"))) := by
  unfold Does
  intro mean mg mb dp un gd cn cs a ccd cl outer A₀ base h₀ L m s g₀ Q E B F X N T hk hP st dj hd hu hret
  refine wpAny_call ?_
  k_dflt (refine' enter (binds := [(Str.ofString "self", .ref x)]) ?k1 ?k2 ?k3 ?k4 ?k5 ?kA ?kF ?kK ?k6 ?k7 ?k8 ?k9 ?kB ?_ ?c2 ?c3 ?c4 ?c5; (case kA => exact rfl); (case kF => exact rfl); (case kK => assumption); (case k1 => k_asm); (case k2 => k_asm); (case k3 => k_asm); (case k4 => k_asm); (case k5 => k_asm); (case k6 => k_is); (case k7 => k_is); (case k8 => ktr_room); (case k9 => first | exact BindsTo.of_eq rfl | exact binds_K (by k_in) rfl (by k_is) rfl rfl rfl); (case c5 => decide); (case kB => exact locs rfl); (case c2 => exact rfl); (case c3 => exact rfl); (case c4 => exact rfl); k_whole; intro g' L' h' tk0 FG' F' N' B' X' T' hg'; (try dsimp only); (try k_fold); (try (refine letA ?_; intro Ak)))
  (refine cps ?_; intro G9 out9)
  obtain ⟨d, h1, h2, h3, k1, k2, k3, t1, t3, mv, I⟩ := isSyn_mono _ _ _ _ (stays_of st dj hg') hP
  (refine out9 ?_; clear out9 G9)
  (repeat' (first | (k_unfold; (try dsimp only)) | (k_end; kc_close) | ((with_reducible show wpAny _ _ (execs (_ :: _) _) _ _ _); (with_reducible refine wpAny_execs_cons ?_); first | k_fold | (try dsimp only)) | (k_closed; first | ((with_reducible refine ite_pos ?_ ?_); (focus (k_dflt decide))) | ((with_reducible refine ite_neg ?_ ?_); (focus (k_dflt decide)))) | walk1 | (dsimp only; walk1) | (leave1; (try dsimp only))))
  all_goals (refine hret _ _ _ _ (by assumption) (by assumption) (Kept.of_frame hg' (by assumption)) ⟨rfl, ?_⟩)
  · rename (_ == _) = true => hn
    rw [hn, decide_eq_true (beq_iff_eq.mp hn)]
  · rename (_ == _) = false => hn
    rw [beq_eq_false_iff_ne.mpr hk2, decide_eq_false (beq_eq_false_iff_ne.mp hn)]
end
noncomputable section
set_option maxRecDepth 100000
theorem Does.pureV {w : World} {d u : Nat} {P : Heap → Prop} {f : Addr} {vs : List Value} {v : Value} (D : Does w d u P f vs [] (fun r nx => nx = [] ∧ r = v))
    {mean : ExcName → Option Value} {mg mb : Str → Option Value} {dp un : Nat} {gd : Option (List Code)} {cn : Str} {cs : Scope} {a : Addr} {ccd : Value} {cl : List (Str × Addr)} {outer : List Env} {A₀ : Around} {base h₀ : Heap} {L : Addr} {m : Str → Option Value} {s : Shared} {g₀ : Heap} {news : Led}
    {Q E : Value → Shared → Prop} (B : Below A₀ base outer h₀) (F : Fr h₀ L s.heap m) (X : (K w.params).In h₀) (N : News h₀ L s.heap news) (T : Tp mean mg mb h₀) (hk : cs.kind = .function) (hP : P g₀) (st : g₀.StaysIn s.heap) (hd : dp + d < recursionLimit) (hu : un + u < cLine)
    (k : ∀ h' tk', Fr h₀ L h' m → News h₀ L h' news → Q v { s with heap := h', toks := tk' }) :
    wpAny (model Pg w) (ktrTop dp un gd cn cs L a ccd cl outer) (call (.ref f) vs) Q E s :=
  Does.pure D B F X N T hk hP st hd hu fun r h' tk' F' N' _ hr => by subst hr; exact k h' tk' F' N'
theorem Does.pureI {w : World} {d u : Nat} {P : Heap → Prop} {f : Addr} {vs : List Value} {x : Int} (D : Does w d u P f vs [] (fun r nx => nx = [] ∧ IsI r x))
    {mean : ExcName → Option Value} {mg mb : Str → Option Value} {dp un : Nat} {gd : Option (List Code)} {cn : Str} {cs : Scope} {a : Addr} {ccd : Value} {cl : List (Str × Addr)} {outer : List Env} {A₀ : Around} {base h₀ : Heap} {L : Addr} {m : Str → Option Value} {s : Shared} {g₀ : Heap} {news : Led}
    {Q E : Value → Shared → Prop} (B : Below A₀ base outer h₀) (F : Fr h₀ L s.heap m) (X : (K w.params).In h₀) (N : News h₀ L s.heap news) (T : Tp mean mg mb h₀) (hk : cs.kind = .function) (hP : P g₀) (st : g₀.StaysIn s.heap) (hd : dp + d < recursionLimit) (hu : un + u < cLine)
    (k : ∀ t h' tk', Fr h₀ L h' m → News h₀ L h' news → Q (.int x t) { s with heap := h', toks := tk' }) :
    wpAny (model Pg w) (ktrTop dp un gd cn cs L a ccd cl outer) (call (.ref f) vs) Q E s :=
  Does.pure D B F X N T hk hP st hd hu fun r h' tk' F' N' _ hr => by obtain ⟨t, hr⟩ := hr; subst hr; exact k t h' tk' F' N'
theorem Does.pureT {w : World} {d u : Nat} {P : Heap → Prop} {f : Addr} {vs : List Value} {x : Str} (D : Does w d u P f vs [] (fun r nx => nx = [] ∧ ∃ u, r = .str x u))
    {mean : ExcName → Option Value} {mg mb : Str → Option Value} {dp un : Nat} {gd : Option (List Code)} {cn : Str} {cs : Scope} {a : Addr} {ccd : Value} {cl : List (Str × Addr)} {outer : List Env} {A₀ : Around} {base h₀ : Heap} {L : Addr} {m : Str → Option Value} {s : Shared} {g₀ : Heap} {news : Led}
    {Q E : Value → Shared → Prop} (B : Below A₀ base outer h₀) (F : Fr h₀ L s.heap m) (X : (K w.params).In h₀) (N : News h₀ L s.heap news) (T : Tp mean mg mb h₀) (hk : cs.kind = .function) (hP : P g₀) (st : g₀.StaysIn s.heap) (hd : dp + d < recursionLimit) (hu : un + u < cLine)
    (k : ∀ t h' tk', Fr h₀ L h' m → News h₀ L h' news → Q (.str x t) { s with heap := h', toks := tk' }) :
    wpAny (model Pg w) (ktrTop dp un gd cn cs L a ccd cl outer) (call (.ref f) vs) Q E s :=
  Does.pure D B F X N T hk hP st hd hu fun r h' tk' F' N' _ hr => by obtain ⟨t, hr⟩ := hr; subst hr; exact k t h' tk' F' N'
end
-- A3
noncomputable section
set_option maxRecDepth 100000


theorem kd_is {c : Int} (hc : Four c) {x : Str} (hx : (x == Str.ofString "(" || x == Str.ofString ")" || x == Str.ofString "w" || x == Str.ofString " ") = false) : (kd c == x) = false := by
  refine beq_eq_false_iff_ne.mpr fun e => ?_
  subst e
  unfold kd at hx
  rcases hc with rfl | rfl | rfl | rfl <;> revert hx <;> decide


set_option maxHeartbeats 4000000 in
theorem own_does (w : World) (e : Ar) (c : Int) (t : Tok) (hc : Four c) :
    Does w 1 8 (IsTable w e) 201 [.ref e.t, .int c t] [] (fun r nx => nx = [] ∧ r = .ref (e.syn c)) := by
  unfold Does
  intro mean mg mb dp un gd cn cs a ccd cl outer A₀ base h₀ L m s g₀ Q E B F X N T hk hP st dj hd hu hret
  refine wpAny_call ?_
  k_dflt (refine' enter (binds := [(Str.ofString "self", .ref e.t), (Str.ofString "code", .int c t)]) ?k1 ?k2 ?k3 ?k4 ?k5 ?kA ?kF ?kK ?k6 ?k7 ?k8 ?k9 ?kB ?_ ?c2 ?c3 ?c4 ?c5; (case kA => exact rfl); (case kF => exact rfl); (case kK => assumption); (case k1 => k_asm); (case k2 => k_asm); (case k3 => k_asm); (case k4 => k_asm); (case k5 => k_asm); (case k6 => k_is); (case k7 => k_is); (case k8 => ktr_room); (case k9 => first | exact BindsTo.of_eq rfl | exact binds_K (by k_in) rfl (by k_is) rfl rfl rfl); (case c5 => decide); (case kB => exact locs rfl); (case c2 => exact rfl); (case c3 => exact rfl); (case c4 => exact rfl); k_whole; intro g' L' h' tk0 FG' F' N' B' X' T' hg'; (try dsimp only); (try k_fold); (try (refine letA ?_; intro Ak)))
  (refine cps ?_; intro G9 out9)
  obtain ⟨dt, rd, h1, h2, k1, k2, f, I, hm, lo, hf⟩ := isTable_mono _ _ _ _ (stays_of st dj hg') hP
  (refine out9 ?_; clear out9 G9)
  clear hP st dj
  (refine cps ?_; intro G9 out9)
  obtain ⟨hfc, d, h3, h4, h5, k3, k4, k5, t1, t3, mv, I2⟩ := hf c hc
  (refine out9 ?_; clear out9 G9)
  have hkd := kd_is hc (x := Str.ofString "@") (by decide)
  (repeat' (first | (k_unfold; (try dsimp only)) | (k_end; kc_close) | ((with_reducible show wpAny _ _ (execs (_ :: _) _) _ _ _); (with_reducible refine wpAny_execs_cons ?_); first | k_fold | (try dsimp only)) | (k_closed; first | ((with_reducible refine ite_pos ?_ ?_); (focus (k_dflt decide))) | ((with_reducible refine ite_neg ?_ ?_); (focus (k_dflt decide)))) | ((with_reducible show wpAny _ _ (call (.builtin "dict.get") _) _ _ _); (k_here; k_dflt (refine' map_get2 ?k1 ?k2 ?k3 ?_; (case k1 => exact mapOf_mono (Fr.keep (by k_asm)) (by assumption)); (case k2 => assumption); (case k3 => assumption)))) | ((with_reducible show wpAny _ _ (getMethod (.ref _) _ _) _ _ _); (k_here; k_dflt (refine' map_getMethod ?k1 ?_; (case k1 => exact mapOf_mono (Fr.keep (by k_asm)) (by assumption))))) | ((with_reducible show wpAny _ _ (exec (.While _ _ _ _) _) _ _ _); refine halt ?_) | ((with_reducible show wpAny _ _ (exec (.For _ _ _ _ _) _) _ _ _); refine halt ?_) | ((with_reducible show wpAny _ _ (eval (.Name _ _) _) _ _ _); k_here; k_dflt (refine' ld ?k1 ?k2 ?_; (case k1 => k_asm); (case k2 => first | with_reducible assumption | exact rfl | assumption); k_whole)) | walk1 | (dsimp only; walk1) | (leave1; (try dsimp only))))
  all_goals (refine hret _ _ _ _ (by assumption) (by assumption) (Kept.of_frame hg' (by assumption)) ⟨rfl, rfl⟩)

@[irreducible] def Halt (p : Prop) : Prop := p
theorem halt {p : Prop} (h : Halt p) : p := by unfold Halt at h; exact h
theorem unhalt {p : Prop} (h : p) : Halt p := by unfold Halt; exact h


set_option maxHeartbeats 4000000 in
theorem at_does (w : World) (e : Ar) (c : Int) (t : Tok) (hc : Four c) :
    Does w 2 16 (IsTable w e) 208 [.ref e.t, .int c t] [] (fun r nx => nx = [] ∧ r = .ref (e.syn c)) := by
  unfold Does
  intro mean mg mb dp un gd cn cs a ccd cl outer A₀ base h₀ L m s g₀ Q E B F X N T hk hP st dj hd hu hret
  refine wpAny_call ?_
  k_dflt (refine' enter (binds := [(Str.ofString "self", .ref e.t), (Str.ofString "code", .int c t)]) ?k1 ?k2 ?k3 ?k4 ?k5 ?kA ?kF ?kK ?k6 ?k7 ?k8 ?k9 ?kB ?_ ?c2 ?c3 ?c4 ?c5; (case kA => exact rfl); (case kF => exact rfl); (case kK => assumption); (case k1 => k_asm); (case k2 => k_asm); (case k3 => k_asm); (case k4 => k_asm); (case k5 => k_asm); (case k6 => k_is); (case k7 => k_is); (case k8 => ktr_room); (case k9 => first | exact BindsTo.of_eq rfl | exact binds_K (by k_in) rfl (by k_is) rfl rfl rfl); (case c5 => decide); (case kB => exact locs rfl); (case c2 => exact rfl); (case c3 => exact rfl); (case c4 => exact rfl); k_whole; intro g' L' h' tk0 FG' F' N' B' X' T' hg'; (try dsimp only); (try k_fold); (try (refine letA ?_; intro Ak)))
  have hP' := isTable_mono _ _ _ _ (stays_of st dj hg') hP
  clear hP st dj
  have hP2 := hP'
  (refine cps ?_; intro G9 out9)
  obtain ⟨dt, rd, h1, h2, k1, k2, f, I, hm, lo, hf⟩ := hP2
  (refine out9 ?_; clear out9 G9)
  (repeat' (first | (k_unfold; (try dsimp only)) | (k_end; kc_close) | ((with_reducible show wpAny _ _ (execs (_ :: _) _) _ _ _); (with_reducible refine wpAny_execs_cons ?_); first | k_fold | (try dsimp only)) | (k_closed; first | ((with_reducible refine ite_pos ?_ ?_); (focus (k_dflt decide))) | ((with_reducible refine ite_neg ?_ ?_); (focus (k_dflt decide)))) | ((with_reducible show wpAny _ _ (call (.ref _) _) _ _ _); first | ((with_reducible show wpAny _ _ (call (.ref 201) _) _ _ _); (k_dflt (refine' Does.pureV (own_does _ _ _ _ ?hc) ?uB ?uF ?uX ?uN ?uT ?uk ?uP ?ust ?ud ?uu ?_; walk_at "mine:p"; (case hc => assumption); k_whole; intro hZ tkZ FZ NZ; (try k_sweep); (try dsimp only))))) | ((with_reducible show wpAny _ _ (call (.builtin "dict.get") _) _ _ _); (k_here; k_dflt (refine' map_get2 ?k1 ?k2 ?k3 ?_; (case k1 => exact mapOf_mono (Fr.keep (by k_asm)) (by assumption)); (case k2 => assumption); (case k3 => assumption)))) | ((with_reducible show wpAny _ _ (getMethod (.ref _) _ _) _ _ _); (k_here; k_dflt (refine' map_getMethod ?k1 ?_; (case k1 => exact mapOf_mono (Fr.keep (by k_asm)) (by assumption))))) | ((with_reducible show wpAny _ _ (exec (.While _ _ _ _) _) _ _ _); refine halt ?_) | ((with_reducible show wpAny _ _ (exec (.For _ _ _ _ _) _) _ _ _); refine halt ?_) | ((with_reducible show wpAny _ _ (eval (.Name _ _) _) _ _ _); k_here; k_dflt (refine' ld ?k1 ?k2 ?_; (case k1 => k_asm); (case k2 => first | with_reducible assumption | exact rfl | assumption); k_whole)) | walk1 | (dsimp only; with_reducible show wpAny _ _ (call (.ref _) _) _ _ _) | (dsimp only; walk1) | (leave1; (try dsimp only))))
  refine unhalt ?_
  refine While_inv2 (fun n m₁ news₁ => m₁ (Str.ofString "table") = some (.ref e.t) ∧ m₁ (Str.ofString "code") = some (.int c t) ∧ news₁ = []) (n₀ := 0) (by assumption) (by assumption) ⟨by rfl, by rfl, rfl⟩ ?_
  intro n m₁ news₁ h₁ tk₁ F₁ N₁ hI9
  (try k_fold)
  (refine cps ?_; intro G9 out9)
  obtain ⟨a1, a2, rfl⟩ := hI9
  (refine out9 ?_; clear out9 G9)
  (repeat' (first | (k_unfold; (try dsimp only)) | (k_end; kc_close) | ((with_reducible show wpAny _ _ (execs (_ :: _) _) _ _ _); (with_reducible refine wpAny_execs_cons ?_); first | k_fold | (try dsimp only)) | (k_closed; first | ((with_reducible refine ite_pos ?_ ?_); (focus (k_dflt decide))) | ((with_reducible refine ite_neg ?_ ?_); (focus (k_dflt decide)))) | ((with_reducible show wpAny _ _ (call (.ref _) _) _ _ _); first | ((with_reducible show wpAny _ _ (call (.ref 201) _) _ _ _); (k_dflt (refine' Does.pureV (own_does _ _ _ _ ?hc) ?uB ?uF ?uX ?uN ?uT ?uk ?uP ?ust ?ud ?uu ?_; walk_at "mine:p"; (case hc => assumption); k_whole; intro hZ tkZ FZ NZ; (try k_sweep); (try dsimp only))))) | ((with_reducible show wpAny _ _ (call (.builtin "dict.get") _) _ _ _); (k_here; k_dflt (refine' map_get2 ?k1 ?k2 ?k3 ?_; (case k1 => exact mapOf_mono (Fr.keep (by k_asm)) (by assumption)); (case k2 => assumption); (case k3 => assumption)))) | ((with_reducible show wpAny _ _ (getMethod (.ref _) _ _) _ _ _); (k_here; k_dflt (refine' map_getMethod ?k1 ?_; (case k1 => exact mapOf_mono (Fr.keep (by k_asm)) (by assumption))))) | ((with_reducible show wpAny _ _ (exec (.While _ _ _ _) _) _ _ _); refine halt ?_) | ((with_reducible show wpAny _ _ (exec (.For _ _ _ _ _) _) _ _ _); refine halt ?_) | ((with_reducible show wpAny _ _ (eval (.Name _ _) _) _ _ _); k_here; k_dflt (refine' ld ?k1 ?k2 ?_; (case k1 => k_asm); (case k2 => first | with_reducible assumption | exact rfl | assumption); k_whole)) | walk1 | (dsimp only; with_reducible show wpAny _ _ (call (.ref _) _) _ _ _) | (dsimp only; walk1) | (leave1; (try dsimp only))))
  all_goals (refine hret _ _ _ _ (by assumption) (by assumption) (Kept.of_frame hg' (by assumption)) ⟨rfl, rfl⟩)
end
-- A4
noncomputable section
set_option maxRecDepth 100000

@[irreducible] def cAt (codes : List Int) (p : Int) : Int := if 1 ≤ p ∧ p < 1 + codes.length then codes.getD (p - 1).toNat 0 else -1
noncomputable def Inside (codes : List Int) (p : Int) : Prop := 1 ≤ p ∧ p < 1 + codes.length
noncomputable def Codes (codes : List Int) : Prop := codes.length ≤ 90 ∧ ∀ c ∈ codes, Four c
theorem four_at {codes : List Int} {p : Int} (hc : Codes codes) (h : Inside codes p) : Four (cAt codes p) := by
  unfold cAt Inside at *
  rw [if_pos h]
  have hl : (p - 1).toNat < codes.length := by omega
  rw [List.getD_eq_getElem?_getD, List.getElem?_eq_getElem hl]
  exact hc.2 _ (List.getElem_mem hl)
theorem four_of {codes : List Int} {p : Int} (hc : Codes codes) (h : ¬ cAt codes p < 0) : Four (cAt codes p) := by
  by_cases h2 : Inside codes p
  · exact four_at hc h2
  · unfold cAt Inside at *
    rw [if_neg h2] at h
    omega
theorem inside_of {codes : List Int} {p : Int} (h : ¬ cAt codes p < 0) : Inside codes p := by
  by_cases h2 : Inside codes p
  · exact h2
  · unfold cAt Inside at *
    rw [if_neg h2] at h
    omega
theorem outside_of {codes : List Int} {p : Int} (hc : Codes codes) (h : cAt codes p < 0) : ¬ Inside codes p := fun h2 => by
  rcases four_at hc h2 with e | e | e | e <;> rw [e] at h <;> omega
theorem code_at_does2 (w : World) (codes : List Int) (v : Addr) (p : Int) (t : Tok) (hp : -100 ≤ p ∧ p ≤ 100) (hc : codes.length ≤ 100) :
    Does w 1 8 (IsView codes v) 636 [.ref v, .int p t] [] (fun r nx => nx = [] ∧ IsI r (cAt codes p)) := by
  unfold cAt
  exact code_at_does w codes v p t hp hc
theorem kd_eq {c : Int} (hc : Four c) : (kd c == Str.ofString "(") = decide (c = 40) ∧ (kd c == Str.ofString ")") = decide (c = 41) ∧ (kd c == Str.ofString "w") = decide (c = 97) := by
  unfold kd
  rcases hc with rfl | rfl | rfl | rfl <;> decide +kernel
theorem kd_w {c : Int} (hc : Four c) : kd c = Str.ofString "w" ↔ c = 97 := by rw [← beq_iff_eq, (kd_eq hc).2.2, decide_eq_true_iff]
theorem syn_facts {w : World} {e : Ar} {h : Heap} {c : Int} (hT : IsTable w e h) (hc : Four c) : IsSyn (kd c) (e.syn c) h ∧ IsSyn (kd c) (e.syn c) h ∧ (kd c == Str.ofString "<") = false ∧ (kd c == Str.ofString "!") = false ∧ (kd c != Str.ofString "'") = true ∧ (kd c == Str.ofString "\"") = false ∧ (kd c == Str.ofString "|") = false ∧ (kd c == Str.ofString "$") = false ∧ kd c ≠ Str.ofString "\\" ∧ kd c ≠ Str.ofString "/" ∧ kd c ≠ Str.ofString "_" := by
  obtain ⟨dt, rd, h1, h2, k1, k2, f, I, hm, lo, hf⟩ := hT
  have hb : (kd c != Str.ofString "'") = true := by rw [bne, kd_is hc (by decide)]; rfl
  exact ⟨(hf c hc).2, (hf c hc).2, kd_is hc (by decide), kd_is hc (by decide), hb, kd_is hc (by decide), kd_is hc (by decide), kd_is hc (by decide), beq_eq_false_iff_ne.mp (kd_is hc (by decide)), beq_eq_false_iff_ne.mp (kd_is hc (by decide)), beq_eq_false_iff_ne.mp (kd_is hc (by decide))⟩
noncomputable def IsAr (w : World) (codes : List Int) (e : Ar) (h : Heap) : Prop := IsView codes e.v h ∧ IsTable w e h
theorem isAr_mono (w : World) (codes : List Int) (e : Ar) : Mono (IsAr w codes e) := fun _ _ k h => ⟨isView_mono _ _ _ _ k h.1, isTable_mono _ _ _ _ k h.2⟩
noncomputable def SynIs (codes : List Int) (e : Ar) (p : Int) (r : Value) : Prop := (Inside codes p ∧ r = .ref (e.syn (cAt codes p))) ∨ (¬ Inside codes p ∧ r = .none)


set_option maxHeartbeats 4000000 in
theorem syntax_at_does (w : World) (codes : List Int) (e : Ar) (p : Int) (t : Tok) (hp : -100 ≤ p ∧ p ≤ 100) (hc : Codes codes) :
    Does w 3 24 (IsAr w codes e) 271 [.ref e.v, .ref e.t, .int p t] [] (fun r nx => nx = [] ∧ SynIs codes e p r) := by
  unfold Does
  intro mean mg mb dp un gd cn cs a ccd cl outer A₀ base h₀ L m s g₀ Q E B F X N T hk hP st dj hd hu hret
  refine wpAny_call ?_
  k_dflt (refine' enter (binds := [(Str.ofString "view", .ref e.v), (Str.ofString "table", .ref e.t), (Str.ofString "place", .int p t)]) ?k1 ?k2 ?k3 ?k4 ?k5 ?kA ?kF ?kK ?k6 ?k7 ?k8 ?k9 ?kB ?_ ?c2 ?c3 ?c4 ?c5; (case kA => exact rfl); (case kF => exact rfl); (case kK => assumption); (case k1 => k_asm); (case k2 => k_asm); (case k3 => k_asm); (case k4 => k_asm); (case k5 => k_asm); (case k6 => k_is); (case k7 => k_is); (case k8 => ktr_room); (case k9 => first | exact BindsTo.of_eq rfl | exact binds_K (by k_in) rfl (by k_is) rfl rfl rfl); (case c5 => decide); (case kB => exact locs rfl); (case c2 => exact rfl); (case c3 => exact rfl); (case c4 => exact rfl); k_whole; intro g' L' h' tk0 FG' F' N' B' X' T' hg'; (try dsimp only); (try k_fold); (try (refine letA ?_; intro Ak)))
  obtain ⟨hV, hT⟩ := isAr_mono _ _ _ _ _ (stays_of st dj hg') hP
  clear hP st dj
  have hV2 := hV
  have hT2 := hT
  (refine cps ?_; intro G9 out9)
  obtain ⟨dv, lc, h1, h2, k1, k2, t1, vs, n, I, Ll, i⟩ := hV2
  (refine out9 ?_; clear out9 G9)
  (refine cps ?_; intro G9 out9)
  obtain ⟨dt, rd, h1, h2, k1, k2, f, I2, hm, lo, hf⟩ := hT2
  (refine out9 ?_; clear out9 G9)
  (repeat' (first | (k_unfold; (try dsimp only)) | (k_end; kc_close) | ((with_reducible show wpAny _ _ (execs (_ :: _) _) _ _ _); (with_reducible refine wpAny_execs_cons ?_); first | k_fold | (try dsimp only)) | (k_closed; first | ((with_reducible refine ite_pos ?_ ?_); (focus (k_dflt decide))) | ((with_reducible refine ite_neg ?_ ?_); (focus (k_dflt decide)))) | ((with_reducible show wpAny _ _ (call (.ref _) _) _ _ _); first | ((with_reducible show wpAny _ _ (call (.ref 208) _) _ _ _); (k_dflt (refine' Does.pureV (at_does _ _ _ _ ?hc) ?uB ?uF ?uX ?uN ?uT ?uk ?uP ?ust ?ud ?uu ?_; walk_at "mine:p"; (case hc => exact four_of (by assumption) (by assumption)); k_whole; intro hZ tkZ FZ NZ; (try k_sweep); (try dsimp only)))) | ((with_reducible show wpAny _ _ (call (.ref 636) _) _ _ _); (k_dflt (refine' Does.pureI (code_at_does2 _ _ _ _ _ ?hp ?hl) ?uB ?uF ?uX ?uN ?uT ?uk ?uP ?ust ?ud ?uu ?_; walk_at "mine:p"; (case hp => omega); (case hl => (have := (by assumption : Codes _).1; omega)); k_whole; intro tZ hZ tkZ FZ NZ; (try k_sweep); (try dsimp only))))) | ((with_reducible show wpAny _ _ (exec (.While _ _ _ _) _) _ _ _); refine halt ?_) | ((with_reducible show wpAny _ _ (exec (.For _ _ _ _ _) _) _ _ _); refine halt ?_) | ((with_reducible show wpAny _ _ (eval (.Name _ _) _) _ _ _); k_here; k_dflt (refine' ld ?k1 ?k2 ?_; (case k1 => k_asm); (case k2 => first | with_reducible assumption | exact rfl | assumption); k_whole)) | walk1 | (dsimp only; with_reducible show wpAny _ _ (call (.ref _) _) _ _ _) | (dsimp only; walk1) | (leave1; (try dsimp only))))
  all_goals (refine hret _ _ _ _ (by assumption) (by assumption) (Kept.of_frame hg' (by assumption)) ⟨rfl, ?_⟩)
  · exact .inr ⟨outside_of hc (by assumption), rfl⟩
  · exact .inl ⟨inside_of (by assumption), rfl⟩
end
noncomputable section
set_option maxRecDepth 100000
theorem IsSyn.use {k : Str} {x : Addr} {h : Heap} {C : Prop} (S : IsSyn k x h) (c : ∀ (d : Addr) (h1 h2 h3 : Int) (k1 k2 k3 t1 t3 : Tok) (mv : Value), InstAt h x (instObj 144 d) 144 (some (dictOf [⟨h1, .str (Str.ofString "kind") k1, .str k t1⟩, ⟨h2, .str (Str.ofString "match") k2, mv⟩, ⟨h3, .str (Str.ofString "flags") k3, .str (Str.ofString "") t3⟩] 3)) → C) : C := by
  obtain ⟨d, h1, h2, h3, k1, k2, k3, t1, t3, mv, I⟩ := S
  exact c _ _ _ _ _ _ _ _ _ _ I
theorem IsView.use {codes : List Int} {v : Addr} {h : Heap} {C : Prop} (S : IsView codes v h) (c : ∀ (dv lc : Addr) (h1 h2 : Int) (k1 k2 t : Tok) (vs : List Value), InstAt h v (instObj 639 dv) 639 (some (dictOf [⟨h1, .str (Str.ofString "codes") k1, .ref lc⟩, ⟨h2, .str (Str.ofString "place") k2, .int 1 t⟩] 2)) → h.IsList lc vs.toArray → IntsAre vs codes → C) : C := by
  obtain ⟨dv, lc, h1, h2, k1, k2, t, vs, n, I, Ll, i⟩ := S
  exact c _ _ _ _ _ _ _ _ I Ll i
theorem four_ne1 {c : Int} (hc : Four c) : (kd c == Str.ofString "<") = false := kd_is hc (by decide)
theorem four_ne2 {c : Int} (hc : Four c) : (kd c == Str.ofString "!") = false := kd_is hc (by decide)
theorem four_ne3 {c : Int} (hc : Four c) : (kd c != Str.ofString "'") = true := by rw [bne, kd_is hc (by decide)]; rfl
theorem four_ne4 {c : Int} (hc : Four c) : (kd c == Str.ofString "\"") = false := kd_is hc (by decide)
theorem four_ne5 {c : Int} (hc : Four c) : (kd c == Str.ofString "|") = false := kd_is hc (by decide)
theorem four_ne6 {c : Int} (hc : Four c) : (kd c == Str.ofString "$") = false := kd_is hc (by decide)
theorem four_n7 {c : Int} (hc : Four c) : kd c ≠ Str.ofString "\\" := beq_eq_false_iff_ne.mp (kd_is hc (by decide))
theorem four_n8 {c : Int} (hc : Four c) : kd c ≠ Str.ofString "/" := beq_eq_false_iff_ne.mp (kd_is hc (by decide))
theorem four_n9 {c : Int} (hc : Four c) : kd c ≠ Str.ofString "_" := beq_eq_false_iff_ne.mp (kd_is hc (by decide))
theorem Does.pureS {w : World} {d u : Nat} {f : Addr} {vs : List Value} {codes : List Int} {e : Ar} {p : Int} (D : Does w d u (IsAr w codes e) f vs [] (fun r nx => nx = [] ∧ SynIs codes e p r)) (hc : Codes codes)
    {mean : ExcName → Option Value} {mg mb : Str → Option Value} {dp un : Nat} {gd : Option (List Code)} {cn : Str} {cs : Scope} {a : Addr} {ccd : Value} {cl : List (Str × Addr)} {outer : List Env} {A₀ : Around} {base h₀ : Heap} {L : Addr} {m : Str → Option Value} {s : Shared} {g₀ : Heap} {news : Led}
    {Q E : Value → Shared → Prop} (B : Below A₀ base outer h₀) (F : Fr h₀ L s.heap m) (X : (K w.params).In h₀) (N : News h₀ L s.heap news) (T : Tp mean mg mb h₀) (hk : cs.kind = .function) (hV : IsView codes e.v g₀) (hT : IsTable w e g₀) (st : g₀.StaysIn s.heap) (hd : dp + d < recursionLimit) (hu : un + u < cLine)
    (k : ∀ h' tk', Fr h₀ L h' m → News h₀ L h' news → Inside codes p → Four (cAt codes p) → IsSyn (kd (cAt codes p)) (e.syn (cAt codes p)) g₀ → Q (.ref (e.syn (cAt codes p))) { s with heap := h', toks := tk' })
    (k2 : ∀ h' tk', Fr h₀ L h' m → News h₀ L h' news → ¬ Inside codes p → Q .none { s with heap := h', toks := tk' }) :
    wpAny (model Pg w) (ktrTop dp un gd cn cs L a ccd cl outer) (call (.ref f) vs) Q E s :=
  Does.pure D B F X N T hk ⟨hV, hT⟩ st hd hu fun r h' tk' F' N' _ hr => by
    rcases hr with ⟨hi, hr⟩ | ⟨hi, hr⟩
    · subst hr; exact k h' tk' F' N' hi (four_at hc hi) (syn_facts hT (four_at hc hi)).1
    · subst hr; exact k2 h' tk' F' N' hi
end
-- A5
noncomputable section
set_option maxRecDepth 100000


set_option maxHeartbeats 4000000 in
theorem begin_mark_does (w : World) (codes : List Int) (e : Ar) (p : Int) (t : Tok) (hp : -95 ≤ p ∧ p ≤ 95) (hc : Codes codes) :
    Does w 4 32 (IsAr w codes e) 285 [.ref e.v, .ref e.t, .int p t] [] (fun r nx => nx = [] ∧ r = .none) := by
  unfold Does
  intro mean mg mb dp un gd cn cs a ccd cl outer A₀ base h₀ L m s g₀ Q E B F X N T hk hP st dj hd hu hret
  refine wpAny_call ?_
  k_dflt (refine' enter (binds := [(Str.ofString "view", .ref e.v), (Str.ofString "table", .ref e.t), (Str.ofString "place", .int p t)]) ?k1 ?k2 ?k3 ?k4 ?k5 ?kA ?kF ?kK ?k6 ?k7 ?k8 ?k9 ?kB ?_ ?c2 ?c3 ?c4 ?c5; (case kA => exact rfl); (case kF => exact rfl); (case kK => assumption); (case k1 => k_asm); (case k2 => k_asm); (case k3 => k_asm); (case k4 => k_asm); (case k5 => k_asm); (case k6 => k_is); (case k7 => k_is); (case k8 => ktr_room); (case k9 => first | exact BindsTo.of_eq rfl | exact binds_K (by k_in) rfl (by k_is) rfl rfl rfl); (case c5 => decide); (case kB => exact locs rfl); (case c2 => exact rfl); (case c3 => exact rfl); (case c4 => exact rfl); k_whole; intro g' L' h' tk0 FG' F' N' B' X' T' hg'; (try dsimp only); (try k_fold); (try (refine letA ?_; intro Ak)))
  obtain ⟨hV, hT⟩ := isAr_mono _ _ _ _ _ (stays_of st dj hg') hP
  clear hP st dj
  (repeat' (first | (k_unfold; (try dsimp only)) | (k_end; kc_close) | ((with_reducible show wpAny _ _ (execs (_ :: _) _) _ _ _); (with_reducible refine wpAny_execs_cons ?_); first | k_fold | (try dsimp only)) | (k_closed; first | ((with_reducible refine ite_pos ?_ ?_); (focus (k_dflt decide))) | ((with_reducible refine ite_neg ?_ ?_); (focus (k_dflt decide)))) | ((with_reducible show wpAny _ _ (call (.ref _) _) _ _ _); first | ((with_reducible show wpAny _ _ (call (.ref 127) _) _ _ _); (k_dflt (refine' Does.pureV (is_escape_does _ _ _ ?h1 ?h2) ?uB ?uF ?uX ?uN ?uT ?uk ?uP ?ust ?ud ?uu ?_; walk_at "mine:p"; (case h1 => exact four_n7 (by assumption)); (case h2 => exact four_n8 (by assumption)); k_whole; intro hZ tkZ FZ NZ; (try k_sweep); (try dsimp only)))) | ((with_reducible show wpAny _ _ (call (.ref 120) _) _ _ _); (k_dflt (refine' Does.pureV (has_does _ _ _ _ _ ?hf) ?uB ?uF ?uX ?uN ?uT ?uk ?uP ?ust ?ud ?uu ?_; walk_at "mine:p"; (case hf => decide +kernel); k_whole; intro hZ tkZ FZ NZ; (try k_sweep); (try dsimp only)))) | ((with_reducible show wpAny _ _ (call (.ref 271) _) _ _ _); (k_dflt (refine' Does.pureS (syntax_at_does _ _ _ _ _ ?hp ?hc) ?ucc ?uB ?uF ?uX ?uN ?uT ?uk ?uV ?uW ?ust ?ud ?uu ?_ ?_; (case ucc => assumption); (case uV => assumption); (case uW => assumption); (case uB => k_asm); (case uF => k_asm); (case uX => k_asm); (case uN => k_asm); (case uT => k_asm); (case uk => exact rfl); (case ust => exact Fr.keep (by k_asm)); (case ud => ktr_room); (case uu => ktr_units); (case hp => omega); (case hc => assumption); k_whole; (focus (intro hZ tkZ FZ NZ hiZ hfZ SZ; (have q1Z := four_ne1 hfZ); (have q2Z := four_ne2 hfZ); (have q3Z := four_ne3 hfZ); (have q4Z := four_ne4 hfZ); (have q5Z := four_ne5 hfZ); (have q6Z := four_ne6 hfZ); refine IsSyn.use SZ ?_; intro dZ e1Z e2Z e3Z e4Z e5Z e6Z e7Z e8Z e9Z IZ; (try k_sweep); (try dsimp only))); rotate_left; (focus (intro hZ tkZ FZ NZ hiZ; first | (exfalso; refine hiZ ?_; unfold Inside; omega) | ((try k_sweep); (try dsimp only)))); rotate_left)))) | ((with_reducible show wpAny _ _ (exec (.While _ _ _ _) _) _ _ _); refine halt ?_) | ((with_reducible show wpAny _ _ (exec (.For _ _ _ _ _) _) _ _ _); refine halt ?_) | ((with_reducible show wpAny _ _ (eval (.Name _ _) _) _ _ _); k_here; k_dflt (refine' ld ?k1 ?k2 ?_; (case k1 => k_asm); (case k2 => first | with_reducible assumption | exact rfl | assumption); k_whole)) | walk1 | (dsimp only; with_reducible show wpAny _ _ (call (.ref _) _) _ _ _) | (dsimp only; walk1) | (leave1; (try dsimp only))))
  all_goals (refine hret _ [] _ _ (by assumption) News.nil (Kept.of_frame hg' (by assumption)) ⟨rfl, rfl⟩)

set_option maxHeartbeats 4000000 in
theorem is_quoted_does (w : World) (codes : List Int) (e : Ar) (p : Int) (t : Tok) (hp : -95 ≤ p ∧ p ≤ 95) (hc : Codes codes) :
    Does w 4 32 (IsAr w codes e) 306 [.ref e.v, .ref e.t, .int p t] [] (fun r nx => nx = [] ∧ r = .bool false) := by
  unfold Does
  intro mean mg mb dp un gd cn cs a ccd cl outer A₀ base h₀ L m s g₀ Q E B F X N T hk hP st dj hd hu hret
  refine wpAny_call ?_
  k_dflt (refine' enter (binds := [(Str.ofString "view", .ref e.v), (Str.ofString "table", .ref e.t), (Str.ofString "place", .int p t)]) ?k1 ?k2 ?k3 ?k4 ?k5 ?kA ?kF ?kK ?k6 ?k7 ?k8 ?k9 ?kB ?_ ?c2 ?c3 ?c4 ?c5; (case kA => exact rfl); (case kF => exact rfl); (case kK => assumption); (case k1 => k_asm); (case k2 => k_asm); (case k3 => k_asm); (case k4 => k_asm); (case k5 => k_asm); (case k6 => k_is); (case k7 => k_is); (case k8 => ktr_room); (case k9 => first | exact BindsTo.of_eq rfl | exact binds_K (by k_in) rfl (by k_is) rfl rfl rfl); (case c5 => decide); (case kB => exact locs rfl); (case c2 => exact rfl); (case c3 => exact rfl); (case c4 => exact rfl); k_whole; intro g' L' h' tk0 FG' F' N' B' X' T' hg'; (try dsimp only); (try k_fold); (try (refine letA ?_; intro Ak)))
  obtain ⟨hV, hT⟩ := isAr_mono _ _ _ _ _ (stays_of st dj hg') hP
  clear hP st dj
  (repeat' (first | (k_unfold; (try dsimp only)) | (k_end; kc_close) | ((with_reducible show wpAny _ _ (execs (_ :: _) _) _ _ _); (with_reducible refine wpAny_execs_cons ?_); first | k_fold | (try dsimp only)) | (k_closed; first | ((with_reducible refine ite_pos ?_ ?_); (focus (k_dflt decide))) | ((with_reducible refine ite_neg ?_ ?_); (focus (k_dflt decide)))) | ((with_reducible show wpAny _ _ (call (.ref _) _) _ _ _); first | ((with_reducible show wpAny _ _ (call (.ref 127) _) _ _ _); (k_dflt (refine' Does.pureV (is_escape_does _ _ _ ?h1 ?h2) ?uB ?uF ?uX ?uN ?uT ?uk ?uP ?ust ?ud ?uu ?_; walk_at "mine:p"; (case h1 => exact four_n7 (by assumption)); (case h2 => exact four_n8 (by assumption)); k_whole; intro hZ tkZ FZ NZ; (try k_sweep); (try dsimp only)))) | ((with_reducible show wpAny _ _ (call (.ref 120) _) _ _ _); (k_dflt (refine' Does.pureV (has_does _ _ _ _ _ ?hf) ?uB ?uF ?uX ?uN ?uT ?uk ?uP ?ust ?ud ?uu ?_; walk_at "mine:p"; (case hf => decide +kernel); k_whole; intro hZ tkZ FZ NZ; (try k_sweep); (try dsimp only)))) | ((with_reducible show wpAny _ _ (call (.ref 271) _) _ _ _); (k_dflt (refine' Does.pureS (syntax_at_does _ _ _ _ _ ?hp ?hc) ?ucc ?uB ?uF ?uX ?uN ?uT ?uk ?uV ?uW ?ust ?ud ?uu ?_ ?_; (case ucc => assumption); (case uV => assumption); (case uW => assumption); (case uB => k_asm); (case uF => k_asm); (case uX => k_asm); (case uN => k_asm); (case uT => k_asm); (case uk => exact rfl); (case ust => exact Fr.keep (by k_asm)); (case ud => ktr_room); (case uu => ktr_units); (case hp => omega); (case hc => assumption); k_whole; (focus (intro hZ tkZ FZ NZ hiZ hfZ SZ; (have q1Z := four_ne1 hfZ); (have q2Z := four_ne2 hfZ); (have q3Z := four_ne3 hfZ); (have q4Z := four_ne4 hfZ); (have q5Z := four_ne5 hfZ); (have q6Z := four_ne6 hfZ); refine IsSyn.use SZ ?_; intro dZ e1Z e2Z e3Z e4Z e5Z e6Z e7Z e8Z e9Z IZ; (try k_sweep); (try dsimp only))); rotate_left; (focus (intro hZ tkZ FZ NZ hiZ; first | (exfalso; refine hiZ ?_; unfold Inside; omega) | ((try k_sweep); (try dsimp only)))); rotate_left)))) | ((with_reducible show wpAny _ _ (exec (.While _ _ _ _) _) _ _ _); refine halt ?_) | ((with_reducible show wpAny _ _ (exec (.For _ _ _ _ _) _) _ _ _); refine halt ?_) | ((with_reducible show wpAny _ _ (eval (.Name _ _) _) _ _ _); k_here; k_dflt (refine' ld ?k1 ?k2 ?_; (case k1 => k_asm); (case k2 => first | with_reducible assumption | exact rfl | assumption); k_whole)) | walk1 | (dsimp only; with_reducible show wpAny _ _ (call (.ref _) _) _ _ _) | (dsimp only; walk1) | (leave1; (try dsimp only))))
  all_goals (refine unhalt ?_)
  · refine While_inv2 (fun n m₁ news₁ => m₁ (Str.ofString "before") = some (.ref (e.syn (cAt codes (p - 1)))) ∧ (∃ t, m₁ (Str.ofString "count") = some (.int 0 t)) ∧ news₁ = []) (n₀ := 0) (by assumption) (by assumption) ⟨by rfl, ⟨_, by rfl⟩, rfl⟩ ?_
    intro n m₁ news₁ h₁ tk₁ F₁ N₁ hI9
    (try k_fold)
    (refine cps ?_; intro G9 out9)
    obtain ⟨a1, ⟨t2, a2⟩, rfl⟩ := hI9
    (refine out9 ?_; clear out9 G9)
    (repeat' (first | (k_unfold; (try dsimp only)) | (k_end; kc_close) | ((with_reducible show wpAny _ _ (execs (_ :: _) _) _ _ _); (with_reducible refine wpAny_execs_cons ?_); first | k_fold | (try dsimp only)) | (k_closed; first | ((with_reducible refine ite_pos ?_ ?_); (focus (k_dflt decide))) | ((with_reducible refine ite_neg ?_ ?_); (focus (k_dflt decide)))) | ((with_reducible show wpAny _ _ (call (.ref _) _) _ _ _); first | ((with_reducible show wpAny _ _ (call (.ref 127) _) _ _ _); (k_dflt (refine' Does.pureV (is_escape_does _ _ _ ?h1 ?h2) ?uB ?uF ?uX ?uN ?uT ?uk ?uP ?ust ?ud ?uu ?_; walk_at "mine:p"; (case h1 => exact four_n7 (by assumption)); (case h2 => exact four_n8 (by assumption)); k_whole; intro hZ tkZ FZ NZ; (try k_sweep); (try dsimp only)))) | ((with_reducible show wpAny _ _ (call (.ref 120) _) _ _ _); (k_dflt (refine' Does.pureV (has_does _ _ _ _ _ ?hf) ?uB ?uF ?uX ?uN ?uT ?uk ?uP ?ust ?ud ?uu ?_; walk_at "mine:p"; (case hf => decide +kernel); k_whole; intro hZ tkZ FZ NZ; (try k_sweep); (try dsimp only)))) | ((with_reducible show wpAny _ _ (call (.ref 271) _) _ _ _); (k_dflt (refine' Does.pureS (syntax_at_does _ _ _ _ _ ?hp ?hc) ?ucc ?uB ?uF ?uX ?uN ?uT ?uk ?uV ?uW ?ust ?ud ?uu ?_ ?_; (case ucc => assumption); (case uV => assumption); (case uW => assumption); (case uB => k_asm); (case uF => k_asm); (case uX => k_asm); (case uN => k_asm); (case uT => k_asm); (case uk => exact rfl); (case ust => exact Fr.keep (by k_asm)); (case ud => ktr_room); (case uu => ktr_units); (case hp => omega); (case hc => assumption); k_whole; (focus (intro hZ tkZ FZ NZ hiZ hfZ SZ; (have q1Z := four_ne1 hfZ); (have q2Z := four_ne2 hfZ); (have q3Z := four_ne3 hfZ); (have q4Z := four_ne4 hfZ); (have q5Z := four_ne5 hfZ); (have q6Z := four_ne6 hfZ); refine IsSyn.use SZ ?_; intro dZ e1Z e2Z e3Z e4Z e5Z e6Z e7Z e8Z e9Z IZ; (try k_sweep); (try dsimp only))); rotate_left; (focus (intro hZ tkZ FZ NZ hiZ; first | (exfalso; refine hiZ ?_; unfold Inside; omega) | ((try k_sweep); (try dsimp only)))); rotate_left)))) | ((with_reducible show wpAny _ _ (exec (.While _ _ _ _) _) _ _ _); refine halt ?_) | ((with_reducible show wpAny _ _ (exec (.For _ _ _ _ _) _) _ _ _); refine halt ?_) | ((with_reducible show wpAny _ _ (eval (.Name _ _) _) _ _ _); k_here; k_dflt (refine' ld ?k1 ?k2 ?_; (case k1 => k_asm); (case k2 => first | with_reducible assumption | exact rfl | assumption); k_whole)) | walk1 | (dsimp only; with_reducible show wpAny _ _ (call (.ref _) _) _ _ _) | (dsimp only; walk1) | (leave1; (try dsimp only))))
    all_goals (refine hret _ [] _ _ (by assumption) News.nil (Kept.of_frame hg' (by assumption)) ⟨rfl, rfl⟩)
  · refine While_inv2 (fun n m₁ news₁ => m₁ (Str.ofString "before") = some .none ∧ (∃ t, m₁ (Str.ofString "count") = some (.int 0 t)) ∧ news₁ = []) (n₀ := 0) (by assumption) (by assumption) ⟨by rfl, ⟨_, by rfl⟩, rfl⟩ ?_
    intro n m₁ news₁ h₁ tk₁ F₁ N₁ hI9
    (try k_fold)
    (refine cps ?_; intro G9 out9)
    obtain ⟨a1, ⟨t2, a2⟩, rfl⟩ := hI9
    (refine out9 ?_; clear out9 G9)
    (repeat' (first | (k_unfold; (try dsimp only)) | (k_end; kc_close) | ((with_reducible show wpAny _ _ (execs (_ :: _) _) _ _ _); (with_reducible refine wpAny_execs_cons ?_); first | k_fold | (try dsimp only)) | (k_closed; first | ((with_reducible refine ite_pos ?_ ?_); (focus (k_dflt decide))) | ((with_reducible refine ite_neg ?_ ?_); (focus (k_dflt decide)))) | ((with_reducible show wpAny _ _ (call (.ref _) _) _ _ _); first | ((with_reducible show wpAny _ _ (call (.ref 127) _) _ _ _); (k_dflt (refine' Does.pureV (is_escape_does _ _ _ ?h1 ?h2) ?uB ?uF ?uX ?uN ?uT ?uk ?uP ?ust ?ud ?uu ?_; walk_at "mine:p"; (case h1 => exact four_n7 (by assumption)); (case h2 => exact four_n8 (by assumption)); k_whole; intro hZ tkZ FZ NZ; (try k_sweep); (try dsimp only)))) | ((with_reducible show wpAny _ _ (call (.ref 120) _) _ _ _); (k_dflt (refine' Does.pureV (has_does _ _ _ _ _ ?hf) ?uB ?uF ?uX ?uN ?uT ?uk ?uP ?ust ?ud ?uu ?_; walk_at "mine:p"; (case hf => decide +kernel); k_whole; intro hZ tkZ FZ NZ; (try k_sweep); (try dsimp only)))) | ((with_reducible show wpAny _ _ (call (.ref 271) _) _ _ _); (k_dflt (refine' Does.pureS (syntax_at_does _ _ _ _ _ ?hp ?hc) ?ucc ?uB ?uF ?uX ?uN ?uT ?uk ?uV ?uW ?ust ?ud ?uu ?_ ?_; (case ucc => assumption); (case uV => assumption); (case uW => assumption); (case uB => k_asm); (case uF => k_asm); (case uX => k_asm); (case uN => k_asm); (case uT => k_asm); (case uk => exact rfl); (case ust => exact Fr.keep (by k_asm)); (case ud => ktr_room); (case uu => ktr_units); (case hp => omega); (case hc => assumption); k_whole; (focus (intro hZ tkZ FZ NZ hiZ hfZ SZ; (have q1Z := four_ne1 hfZ); (have q2Z := four_ne2 hfZ); (have q3Z := four_ne3 hfZ); (have q4Z := four_ne4 hfZ); (have q5Z := four_ne5 hfZ); (have q6Z := four_ne6 hfZ); refine IsSyn.use SZ ?_; intro dZ e1Z e2Z e3Z e4Z e5Z e6Z e7Z e8Z e9Z IZ; (try k_sweep); (try dsimp only))); rotate_left; (focus (intro hZ tkZ FZ NZ hiZ; first | (exfalso; refine hiZ ?_; unfold Inside; omega) | ((try k_sweep); (try dsimp only)))); rotate_left)))) | ((with_reducible show wpAny _ _ (exec (.While _ _ _ _) _) _ _ _); refine halt ?_) | ((with_reducible show wpAny _ _ (exec (.For _ _ _ _ _) _) _ _ _); refine halt ?_) | ((with_reducible show wpAny _ _ (eval (.Name _ _) _) _ _ _); k_here; k_dflt (refine' ld ?k1 ?k2 ?_; (case k1 => k_asm); (case k2 => first | with_reducible assumption | exact rfl | assumption); k_whole)) | walk1 | (dsimp only; with_reducible show wpAny _ _ (call (.ref _) _) _ _ _) | (dsimp only; walk1) | (leave1; (try dsimp only))))
    all_goals (refine hret _ [] _ _ (by assumption) News.nil (Kept.of_frame hg' (by assumption)) ⟨rfl, rfl⟩)

set_option maxHeartbeats 4000000 in
theorem begin_does (w : World) (codes : List Int) (v : Addr) :
    Does w 1 8 (IsView codes v) 622 [.ref v] [] (fun r nx => nx = [] ∧ IsI r 1) := by
  unfold Does
  intro mean mg mb dp un gd cn cs a ccd cl outer A₀ base h₀ L m s g₀ Q E B F X N T hk hP st dj hd hu hret
  refine wpAny_call ?_
  k_dflt (refine' enter (binds := [(Str.ofString "self", .ref v)]) ?k1 ?k2 ?k3 ?k4 ?k5 ?kA ?kF ?kK ?k6 ?k7 ?k8 ?k9 ?kB ?_ ?c2 ?c3 ?c4 ?c5; (case kA => exact rfl); (case kF => exact rfl); (case kK => assumption); (case k1 => k_asm); (case k2 => k_asm); (case k3 => k_asm); (case k4 => k_asm); (case k5 => k_asm); (case k6 => k_is); (case k7 => k_is); (case k8 => ktr_room); (case k9 => first | exact BindsTo.of_eq rfl | exact binds_K (by k_in) rfl (by k_is) rfl rfl rfl); (case c5 => decide); (case kB => exact locs rfl); (case c2 => exact rfl); (case c3 => exact rfl); (case c4 => exact rfl); k_whole; intro g' L' h' tk0 FG' F' N' B' X' T' hg'; (try dsimp only); (try k_fold); (try (refine letA ?_; intro Ak)))
  (refine cps ?_; intro G9 out9)
  obtain ⟨dv, lc, h1, h2, k1, k2, t1, vs, n, I, Ll, i⟩ := isView_mono _ _ _ _ (stays_of st dj hg') hP
  (refine out9 ?_; clear out9 G9)
  clear hP st dj
  (repeat' (first | (k_unfold; (try dsimp only)) | (k_end; kc_close) | ((with_reducible show wpAny _ _ (execs (_ :: _) _) _ _ _); (with_reducible refine wpAny_execs_cons ?_); first | k_fold | (try dsimp only)) | (k_closed; first | ((with_reducible refine ite_pos ?_ ?_); (focus (k_dflt decide))) | ((with_reducible refine ite_neg ?_ ?_); (focus (k_dflt decide)))) | ((with_reducible show wpAny _ _ (call (.ref _) _) _ _ _); first | ((with_reducible show wpAny _ _ (call (.ref 127) _) _ _ _); (k_dflt (refine' Does.pureV (is_escape_does _ _ _ ?h1 ?h2) ?uB ?uF ?uX ?uN ?uT ?uk ?uP ?ust ?ud ?uu ?_; walk_at "mine:p"; (case h1 => exact four_n7 (by assumption)); (case h2 => exact four_n8 (by assumption)); k_whole; intro hZ tkZ FZ NZ; (try k_sweep); (try dsimp only)))) | ((with_reducible show wpAny _ _ (call (.ref 120) _) _ _ _); (k_dflt (refine' Does.pureV (has_does _ _ _ _ _ ?hf) ?uB ?uF ?uX ?uN ?uT ?uk ?uP ?ust ?ud ?uu ?_; walk_at "mine:p"; (case hf => decide +kernel); k_whole; intro hZ tkZ FZ NZ; (try k_sweep); (try dsimp only)))) | ((with_reducible show wpAny _ _ (call (.ref 271) _) _ _ _); (k_dflt (refine' Does.pureS (syntax_at_does _ _ _ _ _ ?hp ?hc) ?ucc ?uB ?uF ?uX ?uN ?uT ?uk ?uV ?uW ?ust ?ud ?uu ?_ ?_; (case ucc => assumption); (case uV => assumption); (case uW => assumption); (case uB => k_asm); (case uF => k_asm); (case uX => k_asm); (case uN => k_asm); (case uT => k_asm); (case uk => exact rfl); (case ust => exact Fr.keep (by k_asm)); (case ud => ktr_room); (case uu => ktr_units); (case hp => omega); (case hc => assumption); k_whole; (focus (intro hZ tkZ FZ NZ hiZ hfZ SZ; (have q1Z := four_ne1 hfZ); (have q2Z := four_ne2 hfZ); (have q3Z := four_ne3 hfZ); (have q4Z := four_ne4 hfZ); (have q5Z := four_ne5 hfZ); (have q6Z := four_ne6 hfZ); refine IsSyn.use SZ ?_; intro dZ e1Z e2Z e3Z e4Z e5Z e6Z e7Z e8Z e9Z IZ; (try k_sweep); (try dsimp only))); rotate_left; (focus (intro hZ tkZ FZ NZ hiZ; first | (exfalso; refine hiZ ?_; unfold Inside; omega) | ((try k_sweep); (try dsimp only)))); rotate_left)))) | ((with_reducible show wpAny _ _ (exec (.While _ _ _ _) _) _ _ _); refine halt ?_) | ((with_reducible show wpAny _ _ (exec (.For _ _ _ _ _) _) _ _ _); refine halt ?_) | ((with_reducible show wpAny _ _ (eval (.Name _ _) _) _ _ _); k_here; k_dflt (refine' ld ?k1 ?k2 ?_; (case k1 => k_asm); (case k2 => first | with_reducible assumption | exact rfl | assumption); k_whole)) | walk1 | (dsimp only; with_reducible show wpAny _ _ (call (.ref _) _) _ _ _) | (dsimp only; walk1) | (leave1; (try dsimp only))))
  all_goals (refine hret _ [] _ _ (by assumption) News.nil (Kept.of_frame hg' (by assumption)) ⟨rfl, IsI.of rfl⟩)

set_option maxHeartbeats 4000000 in
theorem end_does (w : World) (codes : List Int) (v : Addr) (hc : codes.length ≤ 100) :
    Does w 1 8 (IsView codes v) 629 [.ref v] [] (fun r nx => nx = [] ∧ IsI r (1 + codes.length)) := by
  unfold Does
  intro mean mg mb dp un gd cn cs a ccd cl outer A₀ base h₀ L m s g₀ Q E B F X N T hk hP st dj hd hu hret
  refine wpAny_call ?_
  k_dflt (refine' enter (binds := [(Str.ofString "self", .ref v)]) ?k1 ?k2 ?k3 ?k4 ?k5 ?kA ?kF ?kK ?k6 ?k7 ?k8 ?k9 ?kB ?_ ?c2 ?c3 ?c4 ?c5; (case kA => exact rfl); (case kF => exact rfl); (case kK => assumption); (case k1 => k_asm); (case k2 => k_asm); (case k3 => k_asm); (case k4 => k_asm); (case k5 => k_asm); (case k6 => k_is); (case k7 => k_is); (case k8 => ktr_room); (case k9 => first | exact BindsTo.of_eq rfl | exact binds_K (by k_in) rfl (by k_is) rfl rfl rfl); (case c5 => decide); (case kB => exact locs rfl); (case c2 => exact rfl); (case c3 => exact rfl); (case c4 => exact rfl); k_whole; intro g' L' h' tk0 FG' F' N' B' X' T' hg'; (try dsimp only); (try k_fold); (try (refine letA ?_; intro Ak)))
  (refine cps ?_; intro G9 out9)
  obtain ⟨dv, lc, h1, h2, k1, k2, t1, vs, n, I, Ll, i⟩ := isView_mono _ _ _ _ (stays_of st dj hg') hP
  (refine out9 ?_; clear out9 G9)
  clear hP st dj
  (repeat' (first | (k_unfold; (try dsimp only)) | (k_end; kc_close) | ((with_reducible show wpAny _ _ (execs (_ :: _) _) _ _ _); (with_reducible refine wpAny_execs_cons ?_); first | k_fold | (try dsimp only)) | (k_closed; first | ((with_reducible refine ite_pos ?_ ?_); (focus (k_dflt decide))) | ((with_reducible refine ite_neg ?_ ?_); (focus (k_dflt decide)))) | ((with_reducible show wpAny _ _ (call (.ref _) _) _ _ _); first | ((with_reducible show wpAny _ _ (call (.ref 127) _) _ _ _); (k_dflt (refine' Does.pureV (is_escape_does _ _ _ ?h1 ?h2) ?uB ?uF ?uX ?uN ?uT ?uk ?uP ?ust ?ud ?uu ?_; walk_at "mine:p"; (case h1 => exact four_n7 (by assumption)); (case h2 => exact four_n8 (by assumption)); k_whole; intro hZ tkZ FZ NZ; (try k_sweep); (try dsimp only)))) | ((with_reducible show wpAny _ _ (call (.ref 120) _) _ _ _); (k_dflt (refine' Does.pureV (has_does _ _ _ _ _ ?hf) ?uB ?uF ?uX ?uN ?uT ?uk ?uP ?ust ?ud ?uu ?_; walk_at "mine:p"; (case hf => decide +kernel); k_whole; intro hZ tkZ FZ NZ; (try k_sweep); (try dsimp only)))) | ((with_reducible show wpAny _ _ (call (.ref 271) _) _ _ _); (k_dflt (refine' Does.pureS (syntax_at_does _ _ _ _ _ ?hp ?hc) ?ucc ?uB ?uF ?uX ?uN ?uT ?uk ?uV ?uW ?ust ?ud ?uu ?_ ?_; (case ucc => assumption); (case uV => assumption); (case uW => assumption); (case uB => k_asm); (case uF => k_asm); (case uX => k_asm); (case uN => k_asm); (case uT => k_asm); (case uk => exact rfl); (case ust => exact Fr.keep (by k_asm)); (case ud => ktr_room); (case uu => ktr_units); (case hp => omega); (case hc => assumption); k_whole; (focus (intro hZ tkZ FZ NZ hiZ hfZ SZ; (have q1Z := four_ne1 hfZ); (have q2Z := four_ne2 hfZ); (have q3Z := four_ne3 hfZ); (have q4Z := four_ne4 hfZ); (have q5Z := four_ne5 hfZ); (have q6Z := four_ne6 hfZ); refine IsSyn.use SZ ?_; intro dZ e1Z e2Z e3Z e4Z e5Z e6Z e7Z e8Z e9Z IZ; (try k_sweep); (try dsimp only))); rotate_left; (focus (intro hZ tkZ FZ NZ hiZ; first | (exfalso; refine hiZ ?_; unfold Inside; omega) | ((try k_sweep); (try dsimp only)))); rotate_left)))) | ((with_reducible show wpAny _ _ (exec (.While _ _ _ _) _) _ _ _); refine halt ?_) | ((with_reducible show wpAny _ _ (exec (.For _ _ _ _ _) _) _ _ _); refine halt ?_) | ((with_reducible show wpAny _ _ (eval (.Name _ _) _) _ _ _); k_here; k_dflt (refine' ld ?k1 ?k2 ?_; (case k1 => k_asm); (case k2 => first | with_reducible assumption | exact rfl | assumption); k_whole)) | walk1 | (dsimp only; with_reducible show wpAny _ _ (call (.ref _) _) _ _ _) | (dsimp only; walk1) | (leave1; (try dsimp only))))
  all_goals (refine hret _ [] _ _ (by assumption) News.nil (Kept.of_frame hg' (by assumption)) ⟨rfl, IsI.of ?_⟩)
  all_goals omega
end
-- X0
section
set_option maxRecDepth 100000
/-- a tree that lets every object's own dict be -/
noncomputable def Mild {α : Type} : Sem α → Prop
  | .pure _ => True
  | .raise _ => True
  | .unsupported _ => True
  | .finish _ => True
  | .rule _ k => Mild (k ())
  | .at _ k => Mild (k ())
  | .load _ _ k => ∀ o, Mild (k o)
  | .update _ _ f k => (∀ o : Obj, (f o).dict = o.dict) ∧ Mild (k ())
  | .alloc _ k => ∀ a, Mild (k a)
  | .loadIfAlive _ k => ∀ o, Mild (k o)
  | .point _ k => Mild (k ())
  | .register _ _ => True
  | .fresh k => ∀ t, Mild (k t)
  | .ask k => ∀ x, Mild (k x)
  | .choose _ _ k => ∀ n, Mild (k n)
  | .os _ _ k => ∀ r, Mild (k r)
  | .call .. => False
  | .handled _ k => ∀ x, Mild (k x)
  | .newGen _ k => ∀ n, Mild (k n)
  | .genState _ k => ∀ x, Mild (k x)
  | .resume .. => False
  | .yield .. => True
  | .stack k => ∀ l, Mild (k l)
  | .fork .. => True
  | .thread k => ∀ n, Mild (k n)
  | .await .. => True
noncomputable def DictIs (e dx : Addr) (h : Heap) : Prop := e < h.objs.size ∧ ∀ o, h.objs[e]? = some o → o.dict = some dx
theorem DictIs.push {e dx : Addr} {h : Heap} {o : Obj} (D : DictIs e dx h) : DictIs e dx (h.push o) := by
  obtain ⟨objs, l⟩ := h
  refine ⟨by show e < (objs.push o).size; rw [Array.size_push]; exact Nat.lt_succ_of_lt D.1, fun o' e' => D.2 o' ?_⟩
  have : (objs.push o)[e]? = some o' := e'
  rwa [Array.getElem?_push_lt (h := D.1), ← Array.getElem?_eq_getElem] at this
theorem DictIs.update {e dx a : Addr} {h : Heap} {f : Obj → Obj} (hf : ∀ o : Obj, (f o).dict = o.dict) (D : DictIs e dx h) : DictIs e dx (h.update a f) := by
  obtain ⟨objs, l⟩ := h
  refine ⟨by show e < (objs.modify a f).size; rw [Array.size_modify]; exact D.1, fun o' e' => ?_⟩
  have e2 : (objs.modify a f)[e]? = some o' := e'
  rw [Array.getElem?_modify] at e2
  split at e2
  · cases q : objs[e]? with
    | none => rw [q] at e2; cases e2
    | some o =>
      rw [q] at e2
      cases e2
      rw [hf]
      exact D.2 o q
  · exact D.2 o' e2
theorem mild_wp {α : Type} {M : Model} {Γ : PySem.Ctx} {e dx : Addr} {t : Sem α} (hm : Mild t) {Q : α → Pos → Shared → Prop} {E : Value → Pos → Shared → Prop} {p : Pos} {s : Shared} (D : DictIs e dx s.heap) (h : Sem.wp M Γ t Q E p s) :
    Sem.wp M Γ t (fun a p' s' => Q a p' s' ∧ DictIs e dx s'.heap) (fun v p' s' => E v p' s' ∧ DictIs e dx s'.heap) p s := by
  induction t generalizing p s with
  | pure a => exact ⟨h, D⟩
  | raise v => exact ⟨h, D⟩
  | unsupported w => exact h
  | finish w => exact h
  | rule _ k ih => exact ih () hm D h
  | «at» _ k ih => exact ih () hm D h
  | load a q k ih => obtain ⟨o, h1, h2⟩ := h; exact ⟨o, h1, ih o (hm o) D h2⟩
  | update a q f k ih => exact ⟨h.1, ih () hm.2 (D.update hm.1) h.2⟩
  | alloc o k ih => exact ih _ (hm _) D.push h
  | loadIfAlive a k ih => exact ih _ (hm _) D h
  | point _ k ih => exact ih () hm D h
  | register _ _ => exact h
  | fresh k ih => exact ih _ (hm _) D h
  | ask k ih => exact ih _ (hm _) D h
  | choose _ _ k ih => exact ⟨h.1, ih _ (hm _) D h.2⟩
  | os _ _ k ih => exact ih _ (hm _) D h
  | call => exact hm.elim
  | handled _ k ih => exact ih _ (hm _) D h
  | newGen _ k ih => exact ih _ (hm _) D h
  | genState _ k ih => obtain ⟨o, h1, h2⟩ := h; exact ⟨o, h1, ih _ (hm _) D h2⟩
  | resume => exact hm.elim
  | yield => exact h
  | stack k ih => exact ih _ (hm _) D h
  | fork => exact h
  | thread k ih => exact ih _ (hm _) D h
  | await => exact h
theorem mild_any {α : Type} {M : Model} {A : Around} {e dx : Addr} {t : Sem α} (hm : Mild t) {Q : α → Shared → Prop} {E : Value → Shared → Prop} {s : Shared} (D : DictIs e dx s.heap) (h : wpAny M A t Q E s) :
    wpAny M A t (fun a s' => Q a s' ∧ DictIs e dx s'.heap) (fun v s' => E v s' ∧ DictIs e dx s'.heap) s := fun Γ p hΓ => mild_wp hm D (h Γ p hΓ)
theorem Mild.bind {α β : Type} {t : Sem α} {f : α → Sem β} (h : Mild t) (k : ∀ a, Mild (f a)) : Mild (t >>= f) := by
  show Mild (t.bind f)
  induction t with
  | pure a => exact k a
  | rule _ g ih => exact ih () h
  | «at» _ g ih => exact ih () h
  | load a q g ih => exact fun o => ih o (h o)
  | update a q u g ih => exact ⟨h.1, ih () h.2⟩
  | alloc o g ih => exact fun a => ih a (h a)
  | loadIfAlive a g ih => exact fun a => ih a (h a)
  | point _ g ih => exact ih () h
  | fresh g ih => exact fun a => ih a (h a)
  | ask g ih => exact fun a => ih a (h a)
  | choose _ _ g ih => exact fun a => ih a (h a)
  | os _ _ g ih => exact fun a => ih a (h a)
  | handled _ g ih => exact fun a => ih a (h a)
  | newGen _ g ih => exact fun a => ih a (h a)
  | genState _ g ih => exact fun a => ih a (h a)
  | stack g ih => exact fun a => ih a (h a)
  | thread g ih => exact fun a => ih a (h a)
  | _ => first | exact h.elim | trivial
theorem mild_pure {α : Type} (a : α) : Mild (pure a : Sem α) := trivial
theorem mild_unsup {α : Type} (a : String) : Mild (unsupported a : Sem α) := trivial
theorem mild_load (a : Addr) : Mild (load a) := fun _ => trivial
theorem mild_update (a : Addr) (f : Obj → Obj) (h : ∀ o : Obj, (f o).dict = o.dict) : Mild (update a f) := ⟨h, trivial⟩
theorem mild_stack : Mild stack := fun _ => trivial
theorem mild_alloc (o : Obj) : Mild (alloc o) := fun _ => trivial
theorem mapFields_dict (g : Array Value → Array Value) (o : Obj) : (Obj.mapFields g o).dict = o.dict := by
  obtain ⟨a, b, c, d⟩ := o
  cases c <;> rfl
theorem mild_field (v : Value) (i : Nat) : Mild (field v i) := by
  unfold field fieldsOf
  refine Mild.bind ?_ fun vs => ?_
  · split
    · refine Mild.bind (mild_load _) fun o => ?_
      split <;> first | exact mild_pure _ | exact mild_unsup _
    · exact mild_unsup _
  · split <;> first | exact mild_pure _ | exact mild_unsup _
theorem mild_setField (v x : Value) (i : Nat) : Mild (setField v i x) := by
  unfold setField updateField
  split
  · refine Mild.bind (mild_load _) fun o => ?_
    split
    · split
      · exact mild_update _ _ (mapFields_dict _)
      · exact mild_unsup _
    · exact mild_unsup _
  · exact mild_unsup _
theorem mild_setFlight (v : Value) (f : Option Addr) : Mild (setFlight v f) := by
  unfold setFlight
  refine Mild.bind (mild_field _ _) fun tb => ?_
  split
  · exact mild_setField _ _ _
  · exact mild_pure _
theorem mild_ready : ∀ l : List Env, Mild (readyFrames l)
  | [] => mild_pure _
  | env :: outer => by
    unfold readyFrames
    split
    · refine Mild.bind (mild_load _) fun o => ?_
      split
      · exact mild_pure _
      · refine Mild.bind ?_ fun b => Mild.bind ?_ fun b2 => Mild.bind (mild_update _ _ fun _ => rfl) fun _ => mild_ready outer
        · unfold behindIsImport
          split
          · exact mild_pure _
          · split
            · exact mild_pure _
            · exact Mild.bind (mild_field _ _) fun _ => mild_pure _
        · unfold keptBack
          split
          · split
            · exact mild_pure _
            · unfold underTheClaimsCaller
              exact Mild.bind (Mild.bind mild_stack fun _ => mild_pure _) fun _ => mild_pure _
          · exact mild_pure _
    · exact mild_unsup _
theorem mild_frameOf (env : Env) : Mild (PySem.frameOf env) := by
  unfold PySem.frameOf frameEnvs
  refine Mild.bind (Mild.bind mild_stack fun _ => mild_pure _) fun l => Mild.bind ?_ fun r => ?_
  · unfold frameObject
    split
    · exact mild_pure _
    · exact Mild.bind (mild_ready _) fun _ => mild_pure _
  · split <;> first | exact mild_pure _ | exact mild_unsup _
theorem mild_newEntry (a b c d e : Value) (pl : List Value) : Mild (EntryCells.newEntry a b c d e pl) := by
  have as_is : ∀ (n : String) (z : Data), Mild (newObjAsIs (.type n) z) := fun n z => by
    unfold newObjAsIs
    exact Mild.bind (mild_alloc _) fun _ => mild_pure _
  have all : ∀ vs : List Value, Mild (newFields "traceback" vs) := fun vs => by
    unfold newFields newObj
    dsimp only
    split
    · exact Mild.bind (mild_unsup _) fun _ => as_is _ _
    · exact as_is _ _
  exact all _
theorem mild_entryPlaceOf (f : Addr) (b : Bool) : Mild (entryPlaceOf f b) := by
  unfold entryPlaceOf
  refine Mild.bind mild_stack fun l => ?_
  split <;> exact mild_pure _
theorem mild_noteFrame (v : Value) (env : Env) : Mild (noteFrame v env) := by
  unfold noteFrame
  split
  · refine Mild.bind (mild_field _ _) fun hd => ?_
    have rest : ∀ (f : Addr), Mild (do let a ← PySem.frameOf env; let pl ← entryPlaceOf f (hd != .none); let b ← EntryCells.newEntry hd a .none (rawInt f) .none pl; setField v 1 b) := fun f =>
      Mild.bind (mild_frameOf _) fun a => Mild.bind (mild_entryPlaceOf _ _) fun pl => Mild.bind (mild_newEntry _ _ _ _ _ _) fun b => mild_setField _ _ _
    split
    · refine Mild.bind (mild_field _ _) fun z => ?_
      split
      · exact mild_pure _
      · exact Mild.bind (mild_setField _ _ _) fun _ => rest _
    · exact rest _
  · exact mild_unsup _
theorem mild_leaving (v : Value) (env : Env) : Mild (leaving env v) := Mild.bind (mild_noteFrame v env) fun _ => mild_setFlight _ _
end
-- X1
noncomputable section
set_option maxRecDepth 100000
/-- what a scan's error tells -/
structure Sig where
  msg : Str
  good : Int
  place : Int
noncomputable def DataAt (B : Heap) (dx : Addr) (g : Sig) : Prop :=
  ∃ mA lc t0 t1 t2 t3, B.Ns1 dx mA ∧ mA (Str.ofString "symbol") = some (.str (Str.ofString "scan-error") t0) ∧ mA (Str.ofString "data") = some (.ref lc) ∧ B.IsList lc #[.str g.msg t1, .int g.good t2, .int g.place t3]
noncomputable def frs (l : List Env) : List Addr := l.filterMap (·.frame)
theorem mem_frs {l : List Env} {env : Env} {a : Addr} (h : env ∈ l) (e : env.frame = some a) : a ∈ frs l := List.mem_filterMap.mpr ⟨env, h, e⟩
theorem frs_cons {env : Env} {l : List Env} {L : Addr} (hf : env.frame = some L) : frs (env :: l) = L :: frs l := by
  unfold frs
  rw [List.filterMap_cons, hf]
/-- a scan's error on its way through the frames l: what stood in hs and is neither on the ledger nor a frame stays -/
noncomputable def Thrown (base : Heap) (l : List Env) (hs : Heap) (news : Led) (e : Addr) (g : Sig) (h : Heap) : Prop :=
  ∃ B t dx, base.StaysIn B ∧ Heap.FlyingW B l e (.ref 96) (.ref t) h ∧ DictIs e dx h ∧ DataAt B dx g ∧
    (∀ b o, hs.get? b = some o → (∀ p ∈ news, p.1 ≠ b) → b ∉ frs l → B.get? b = some o) ∧
    (∀ b o, hs.get? b = some o → b ∈ frs l → (∀ vs, o.data ≠ .fields vs) → ∃ sl, h.get? b = some { o with slots := sl })

theorem none_above {g h : Heap} {L : Addr} {m : Str → Option Value} (F : Fr g L h m) : g.get? L = none := by
  cases q : g.get? L with
  | none => rfl
  | some o => exact absurd (Nat.lt_of_lt_of_le (Heap.lt_size q) F.above) (Nat.lt_irrefl _)

section
variable {M : Model} {A A₁ : Around} {E : Value → Shared → Prop} {s' : Shared} {base g' h1 hs : Heap} {outer' : List Env} {env : Env} {L' e : Addr} {m' : Str → Option Value} {Q : Unit → Shared → Prop} {news news1 : Led} {g : Sig}

theorem leave_onD (hfr : A₁.frames = some (env :: outer')) (hf : env.frame = some L') (F : Fr g' L' h1 m') (N1 : News g' L' h1 news1) (TH : Thrown base (env :: outer') h1 news1 e g s'.heap)
    (hg : ∀ b o, hs.get? b = some o → (∀ p ∈ news, p.1 ≠ b) → g'.get? b = some o) (hout : ∀ b ∈ frs outer', ∀ p ∈ news, p.1 ≠ b)
    (k : ∀ h', Thrown base outer' hs news e g h' → Q () { s' with heap := h' }) : wpAny M A₁ (leaving env (.ref e)) Q E s' := by
  obtain ⟨B, t, dx, hB, hfl, hD, hDat, hk, hfs⟩ := TH
  have W := wpAny_leaves_onW (M := M) (E := fun _ _ => False) (Q := fun _ s2 => ∃ h', s2 = { s' with heap := h' } ∧ Heap.FlyingW B outer' e (.ref 96) (.ref t) h' ∧ s'.heap.UpToSlots h') hfr hf hfl fun h' a b => ⟨h', rfl, a, b⟩
  refine wpAny_mono (mild_any (mild_leaving _ _) hD W) (fun _ s2 z => ?_) fun _ _ z => z.1.elim
  obtain ⟨⟨h', rfl, hfl', hup⟩, hD'⟩ := z
  have hL := none_above F
  refine k h' ⟨B, t, dx, hB, hfl', hD', hDat, fun b o e1 e2 e3 => ?_, fun b o e1 e2 e3 => ?_⟩
  · have e4 := hg b o e1 e2
    refine hk b o (F.keep b o e4) (fun p hp q => ?_) fun hm => ?_
    · have := (N1 p hp).2.2; rw [q, e4] at this; cases this
    · rw [frs_cons hf] at hm
      rcases List.mem_cons.mp hm with q | q
      · rw [q, hL] at e4; cases e4
      · exact e3 q
  · have e4 := hg b o e1 (hout b e2)
    obtain ⟨sl, e5⟩ := hfs b o (F.keep b o e4) (by rw [frs_cons hf]; exact List.mem_cons_of_mem _ e2) e3
    obtain ⟨sl2, e6⟩ := hup b _ e5 e3
    exact ⟨sl2, e6⟩

/-- the first frame that a new error leaves -/
theorem leave_firstD {oe : Obj} {vs : Array Value} {dx t : Addr} (hfr : A₁.frames = some (env :: outer')) (hf : env.frame = some L') (hke : env.scope.kind = .function) (B' : Below A base outer' g') (F : Fr g' L' s'.heap m')
    (he : s'.heap.get? e = some oe) (hc : oe.cls = .ref 96) (hd : oe.data = .fields vs) (h1 : vs[1]? = some .none) (h0 : vs[0]? = some (.ref t)) (hdx : oe.dict = some dx) (heg : g'.get? e = none)
    (hdat : DataAt (hideAll s'.heap (e :: frs (env :: outer'))) dx g)
    (hg : ∀ b o, hs.get? b = some o → (∀ p ∈ news, p.1 ≠ b) → g'.get? b = some o) (hout : ∀ b ∈ frs outer', ∀ p ∈ news, p.1 ≠ b)
    (k : ∀ h', Thrown base outer' hs news e g h' → Q () { s' with heap := h' }) : wpAny M A₁ (leaving env (.ref e)) Q E s' := by
  have B₁ := pushX B' F hf hke
  have hL := none_above F
  have hstay : base.StaysIn (hideAll s'.heap (e :: frs (env :: outer'))) := fun b o q => hideAll_get _ (F.keep _ _ (B'.stays b o q)) fun hm => by
    rcases List.mem_cons.mp hm with z | z
    · have := B'.stays b o q; rw [z, heg] at this; cases this
    · rw [(B₁.frames.mem z).1] at q; cases q
  have hfrs : s'.heap.FunFrames (hideAll s'.heap (e :: frs (env :: outer'))) (env :: outer') := funFrames_hide B₁.frames fun env' hm a q => List.mem_cons_of_mem _ (mem_frs hm q)
  have hD : DictIs e dx s'.heap := ⟨Heap.lt_size he, fun o q => by
    have q2 : s'.heap.get? e = some oe := he
    unfold Heap.get? at q2
    rw [q] at q2
    split at q2
    · cases q2
    · rw [Option.some.inj q2]; exact hdx⟩
  have W := wpAny_leaving_firstW (M := M) (A := A₁) (E := fun _ _ => False) (Q := fun _ s2 => ∃ h', s2 = { s' with heap := h' } ∧ Heap.LeftW (hideAll s'.heap (e :: frs (env :: outer'))) (env :: outer') e oe.cls (.ref t) s'.heap h') hfr hfrs hf he
    (fun b o q => of_hideAll _ q) (hideAll_none _ (.head _)) hd h1 h0 fun h' a => ⟨h', rfl, a⟩
  refine wpAny_mono (mild_any (mild_leaving _ _) hD W) (fun _ s2 z => ?_) fun _ _ z => z.1.elim
  obtain ⟨⟨h', rfl, k1, k2, k3, k4⟩, hD'⟩ := z
  rw [hc] at k3
  refine k h' ⟨_, t, dx, hstay, ⟨k1, hideAll_none _ (.head _), k2.2.2, k3⟩, hD', hdat, fun b o e1 e2 e3 => ?_, fun b o e1 e2 e3 => ?_⟩
  · have e4 := hg b o e1 e2
    refine hideAll_get _ (F.keep b o e4) fun hm => ?_
    rcases List.mem_cons.mp hm with q | q
    · rw [q, heg] at e4; cases e4
    · rw [frs_cons hf] at q
      rcases List.mem_cons.mp q with q | q
      · rw [q, hL] at e4; cases e4
      · exact e3 q
  · have e4 := hg b o e1 (hout b e2)
    exact k4 b o (F.keep b o e4) e3
end
/-- no frame on the stack stands on the ledger -/
theorem hout_of {A₀ : Around} {base h₀ h : Heap} {outer : List Env} {L : Addr} {news : Led} {env : Env} (B : Below A₀ base outer h₀) (N : News h₀ L h news) (hf : env.frame = some L) :
    ∀ b ∈ frs (env :: outer), ∀ p ∈ news, p.1 ≠ b := fun b hb p hp q => by
  rw [frs_cons hf] at hb
  rcases List.mem_cons.mp hb with z | z
  · exact (N p hp).2.1 (q.trans z)
  · obtain ⟨o, ho, _⟩ := (B.frames.mem z).2
    rw [← q, (N p hp).2.2] at ho
    cases ho
end
-- X2
noncomputable section
set_option maxRecDepth 100000
open Builtin Builtin.ObjectAttr
theorem cls96 (w : World) : ∃ cd, clsIn (K w.params) 96 = some cd ∧ cd.mro = [.ref 96, .type "Exception", .type "BaseException", .type "object"] ∧ cd.hasDict = true := ⟨_, by k_is, rfl, rfl⟩
section
variable {prog : Program} {w : World} {A : Around} {R : Result → Shared → Prop} {E : Value → Shared → Prop} {s : Shared} {x : Addr} {ox : Obj} {od : Option Obj} {name : Str} {v : Value}
theorem store_open {tk : Tok} (X : (K w.params).In s.heap) (I : InstAt s.heap x ox 96 od) (ha : findIn (K w.params) (.ref 96) name = some none)
    (h : ∀ b, wpAny (model prog w) A.in1 (storeInOwnDict (.ref x) (.ref 96) (.str name tk) name v b)
      (fun fin s' => match fin with | .done f => R (.ok f) s' | .again c' => c'.quiet = true ∧ codeAny (model prog w) A c' R s') (fun e s' => R (.error e) s') s) :
    codeAny (model prog w) A (.call (.builtin "object.__setattr__") ⟨[.ref x, .str name tk, v], []⟩) R s := by
  have SF := PySem.F.store_Exception
  obtain ⟨cd, hc, hm, _⟩ := cls96 w
  have sub : Looks (model prog w) s.heap (isInstance (.ref x) (.type "object")) true := I.type.andThen (looks_mroIn X (by unfold mroIn; rw [hc, Option.bind_some, hm]; rfl))
  refine codeAny_call_builtin SF.slot.plain SF.entry (@check_slot (model prog w) _ _ s "object.__setattr__" "object" "__setattr__" (.ref x) [.str name tk, v] [] _ SF.kind SF.split sub (SF.args (.ref x) (.str name tk) v) ?_)
  have hmro : Looks (model prog w) s.heap (mroOf (.ref 96)) cd.mro := (looks_clsIn X hc).andThen .now
  rw [osa_eq, refuse_eq]
  refine wpAny_bind (wpAny_bind (I.type.here (wpAny_bind (hmro.here ?_))))
  rw [hm, refuseLoop_ref, SF.passes]
  refine wpAny_pure (wpAny_bind (I.type.here (wpAny_bind ((looks_findIn X ha).here (wpAny_bind (wpAny_pure ?_))))))
  exact h _
theorem store_in {d : Addr} {m : Str → Option Value} {ns : List Str} {tk : Tok} {Q : Fin → Shared → Prop} (hn : s.heap.Ns1 d m) (hw : PySem.Within m ns) (hz : ns.length ≤ 10)
    (k : ∀ h', h'.Ns1 d (fun y => if y = name then some v else m y) → Heap.SameBut d s.heap h' → Q (.done (.ret .none)) { s with heap := h', toks := s.toks + 1 }) : wpAny (model prog w) A (storeInDict d (.str name tk) name v) Q E s := by
  unfold storeInDict newKeyGuard
  refine wpAny_bind (wpAny_pure (wpAny_bind (wpAny_nsSet1 hn fun h' hn' hs => ?_)))
  obtain ⟨oD, esD, epD, hoD, hdD, hcD⟩ := hn'.count (PySem.Within.cons name v hw)
  refine wpAny_bind (wpAny_lookBehind hoD (by rw [hdD]; exact pastItsLine_dict (Nat.le_trans hcD (by rw [List.length_cons, sizeLine_eq]; omega))) ?_)
  exact wpAny_pure (k h' hn' hs)
/-- the first attribute of a new error: its dict is made -/
theorem sig_first {Q : Unit → Shared → Prop} (X : (K w.params).In s.heap) (I : InstAt s.heap x ox 96 none) (ha : findIn (K w.params) (.ref 96) name = some none) (hs : findIn (K w.params) (.ref 96) "__setattr__" = some (some (.builtin "object.__setattr__")))
    (k : ∀ h' tk, (∀ b o, b ≠ x → s.heap.get? b = some o → h'.get? b = some o) → h'.get? x = some { ox with dict := some s.heap.objs.size } → h'.Ns1 s.heap.objs.size (fun y => if y = name then some v else none) → Q () { s with heap := h', toks := tk }) :
    wpAny (model prog w) A (setAttr (.ref x) name v) Q E s := by
  refine set_plain X I hs (store_open (s := { s with toks := s.toks + 1 }) X I ha fun b => ?_)
  obtain ⟨cd, hc, _, hd⟩ := cls96 w
  obtain ⟨hx, hcl, hn, hdd⟩ := I
  obtain ⟨oc, odi, oda, osl⟩ := ox
  dsimp only at hcl hdd
  subst hcl
  cases odi with
  | some q => exact hdd.elim
  | none =>
  have hxs : x ≠ s.heap.objs.size := Nat.ne_of_lt (Heap.lt_size hx)
  generalize hs2 : ({ s with toks := s.toks + 1 } : Shared) = s2
  have hh2 : s2.heap = s.heap := by rw [← hs2]
  refine wpAny_bind (wpAny_pure (wpAny_bind (wpAny_bind (wpAny_loadPart (by rw [hh2]; exact hx) (wpAny_bind ((looks_clsIn (h := s2.heap) (by rw [hh2]; exact X) hc).here ?_))))))
  rw [hd, if_neg (by decide)]
  dsimp only
  rw [if_neg (by decide)]
  have hend : ∀ T : Sem (Option Addr), T = (do
      let d ← alloc { cls := Value.type "dict", data := Data.dict #[] }
      update x fun o => { cls := o.cls, dict := some d, data := o.data, slots := o.slots }
      dictMade (.ref 96) x d) → wpAny (model prog w) A.in1 T (fun a s' => wpAny (model prog w) A.in1 (match a with
            | some d => storeInDict d (Value.str name s.toks) name v
            | none => noDictFor (Value.ref x) (Value.ref 96) name b) (fun fin s' => match fin with | .done f => (match (.ok f : Result) with | .ok (.ret _) => Q () s' | .ok _ => False | .error e => E e s') | .again c' => c'.quiet = true ∧ codeAny (model prog w) A c' (fun r s' => match r with | .ok (.ret _) => Q () s' | .ok _ => False | .error e => E e s') s') (fun e s' => E e s') s') (fun e s' => E e s') s2 := by
    rintro T rfl
    have hx₁ : (s2.heap.push { cls := .type "dict", data := .dict #[] }).get? x = some ⟨.ref 96, none, oda, osl⟩ := Heap.get?_push_of_some _ (by rw [hh2]; exact hx)
    refine wpAny_bind (wpAny_alloc' ?_)
    refine wpAny_bind (wpAny_update' hx₁ ?_)
    refine wpAny_pure ?_
    have hxs2 : s2.heap.objs.size ≠ x := by rw [hh2]; exact hxs.symm
    have hgd : ((s2.heap.push { cls := .type "dict", data := .dict #[] }).update x fun o => { cls := o.cls, dict := some s2.heap.objs.size, data := o.data, slots := o.slots }).get? s2.heap.objs.size
        = some { cls := .type "dict", data := .dict #[] } := (Heap.get?_update_ne _ _ _ _ hxs2).trans (Heap.get?_push_at rfl rfl)
    have hnd : ((s2.heap.push { cls := .type "dict", data := .dict #[] }).update x fun o => { cls := o.cls, dict := some s2.heap.objs.size, data := o.data, slots := o.slots }).Ns s2.heap.objs.size (fun _ => none) :=
      ⟨_, #[], _, hgd, rfl, fun e he => absurd he (by simp), fun _ => rfl⟩
    refine store_in (Heap.Ns1.of_empty hnd) PySem.Within.nil (by decide) fun h' hn' hs' => ?_
    subst hs2
    refine k h' _ (fun b ob hbx hb => (hs'.2 b (Nat.ne_of_lt (Heap.lt_size hb))).trans ((Heap.get?_update_ne _ _ _ _ hbx).trans (Heap.get?_push_of_some _ hb))) ?_ hn'
    refine (hs'.2 x hxs).trans (Heap.get?_update_self _ hx₁ ?_)
    have hfr := (Heap.get?_some_iff.mp hx).2
    cases oda <;> first | rfl | exact hfr
  cases oda <;> first | exact hend _ rfl | (exact Bool.noConfusion hn)
/-- the next one -/
theorem sig_next {Q : Unit → Shared → Prop} {dx : Addr} {mA : Str → Option Value} {ns : List Str} (X : (K w.params).In s.heap) (hx : s.heap.get? x = some ox) (hcl : ox.cls = .ref 96) (hn : notCls ox = true) (hdx : ox.dict = some dx) (hne : dx ≠ x) (hns : s.heap.Ns1 dx mA) (hw : PySem.Within mA ns) (hz : ns.length ≤ 10)
    (ha : findIn (K w.params) (.ref 96) name = some none) (hs : findIn (K w.params) (.ref 96) "__setattr__" = some (some (.builtin "object.__setattr__")))
    (k : ∀ h' tk, (∀ b o, b ≠ dx → s.heap.get? b = some o → h'.get? b = some o) → h'.Ns1 dx (fun y => if y = name then some v else mA y) → Q () { s with heap := h', toks := tk }) :
    wpAny (model prog w) A (setAttr (.ref x) name v) Q E s := by
  obtain ⟨oD, esD, epD, eD, rD⟩ := id hns
  have I : InstAt s.heap x ox 96 (some oD) := ⟨hx, hcl, hn, by rw [hdx]; exact eD⟩
  refine set_plain X I hs (store_open (s := { s with toks := s.toks + 1 }) X I ha fun b => ?_)
  obtain ⟨cd, hc, _, hd⟩ := cls96 w
  obtain ⟨oc, odi, oda, osl⟩ := ox
  dsimp only at hcl hdx
  subst hcl hdx
  generalize hs2 : ({ s with toks := s.toks + 1 } : Shared) = s2
  have hh2 : s2.heap = s.heap := by rw [← hs2]
  refine wpAny_bind (wpAny_pure (wpAny_bind (wpAny_bind (wpAny_loadPart (by rw [hh2]; exact hx) (wpAny_bind ((looks_clsIn (h := s2.heap) (by rw [hh2]; exact X) hc).here ?_))))))
  rw [hd, if_neg (by decide)]
  refine wpAny_pure (a := some dx) ?_
  refine store_in (by rw [hh2]; exact hns) hw hz fun h' hn' hs' => ?_
  subst hs2
  exact k h' _ (fun b ob hbx hb => (hs'.2 b hbx).trans hb) hn'
end
end
-- X3
noncomputable section
set_option maxRecDepth 100000

theorem fr_but {g h h' : Heap} {L x : Addr} {m : Str → Option Value} (F : Fr g L h m) (hk : ∀ b o, b ≠ x → h.get? b = some o → h'.get? b = some o) (hx : x ≠ L) (hg : g.get? x = none) : Fr g L h' m := by
  obtain ⟨⟨o, es, ep, e, r⟩, k, a⟩ := F
  exact ⟨⟨o, es, ep, hk _ _ (Ne.symm hx) e, r⟩, fun b ob q => hk _ _ (fun z => by rw [z, hg] at q; cases q) (k b ob q), a⟩
theorem news_but {g h h' : Heap} {L x : Addr} {news : Led} (N : News g L h news) (hk : ∀ b o, b ≠ x → h.get? b = some o → h'.get? b = some o) (hx : ∀ p ∈ news, p.1 ≠ x) : News g L h' news :=
  fun p hp => ⟨hk _ _ (hx p hp) (N p hp).1, (N p hp).2⟩
theorem news_cons {g h : Heap} {L x : Addr} {o : Obj} {news : Led} (e : h.get? x = some o) (hx : x ≠ L) (hg : g.get? x = none) (N : News g L h news) : News g L h ((x, o) :: news) := fun p hp => by
  rcases List.mem_cons.mp hp with rfl | hp
  · exact ⟨e, hx, hg⟩
  · exact N p hp
theorem none_of_size {g h : Heap} {L : Addr} {m : Str → Option Value} (F : Fr g L h m) {x : Addr} (hx : h.get? x = none) : g.get? x = none := by
  cases q : g.get? x with
  | none => rfl
  | some o => rw [F.keep x o q] at hx; cases hx
theorem ns_init {w : World} {h : Heap} (X : (K w.params).In h) : ∃ mN, h.Ns 95 mN ∧ mN "__init__" = some (.ref 93) := by
  have e : h.get? 95 = some (b95 w.params) := X 95 _ (by k_is)
  have hn : h.isNs 95 = true := by unfold Heap.isNs; rw [e]; kernel_rfl
  have N := Heap.Ns.of_isNs hn
  refine ⟨_, N, ?_⟩
  obtain ⟨o, es, ep, ho, hd, _, hm⟩ := N
  rw [← hm]
  rw [e] at ho
  cases ho
  have : es = (match (b95 w.params).data with | .dict es _ => es | _ => #[]) := by rw [hd]
  rw [this]
  rfl

set_option maxHeartbeats 4000000 in
/-- a new error -/
theorem make_sig {w : World} {A A₀ : Around} {base g : Heap} {outer : List Env} {env : Env} {L : Addr} {m : Str → Option Value} {s : Shared} {news : Led} {mean : ExcName → Option Value} {mg mb : Str → Option Value} {Q E : Value → Shared → Prop} {v1 v2 : Value}
    (B : Below A₀ base outer g) (F : Fr g L s.heap m) (X : (K w.params).In g) (N : News g L s.heap news) (T : Tp mean mg mb g) (hA : A.frames = some (env :: outer)) (hf : env.frame = some L) (hke : env.scope.kind = .function) (hroom : A.depth + 2 < recursionLimit)
    (k : ∀ h' tk' e oe t dx mA, Fr g L h' m → News g L h' news → h'.get? e = some oe → oe.cls = .ref 96 → oe.data = .fields #[.ref t, .none, .none, .none, .bool false, .none] → oe.dict = some dx → g.get? e = none → g.get? dx = none → dx ≠ e → e ≠ L → dx ≠ L →
      (∀ p ∈ news, p.1 ≠ e) → (∀ p ∈ news, p.1 ≠ dx) → h'.Ns1 dx mA → mA (Str.ofString "symbol") = some v1 → mA (Str.ofString "data") = some v2 → Q (.ref e) { s with heap := h', toks := tk' }) :
    wpAny (model Pg w) A (call (.ref 96) [v1, v2]) Q E s := by
  obtain ⟨mN, hn, hi⟩ := ns_init (X.keeps F.keep)
  (refine cps ?_; intro G9 out9)
  obtain ⟨hp, gs, dr, tk, os⟩ := s
  (refine out9 ?_; clear out9 G9)
  refine wpAny_call_exc_init PySem.F.excBase_Exception (C := 96) (X.keeps F.keep 96 _ (by k_is)) hn hi (X.keeps F.keep 93 _ (by k_is)) rfl fun h₁ e hm => ?_
  (refine cps ?_; intro G9 out9)
  obtain ⟨kp, ne, t, he, nt, ht⟩ := hm
  (refine out9 ?_; clear out9 G9)
  have heL : e ≠ L := fun q => by
    (refine cps ?_; intro G9 out9)
    obtain ⟨⟨o, es, ep, eo, r⟩, _, _⟩ := F
    (refine out9 ?_; clear out9 G9)
    rw [q] at ne
    exact absurd (eo.symm.trans ne) (by simp)
  have F₁ : Fr g L h₁ m := ⟨by obtain ⟨⟨o, es, ep, eo, r⟩, _, _⟩ := F; exact ⟨o, es, ep, kp _ _ eo, r⟩, fun b o q => kp _ _ (F.keep b o q), F.above⟩
  have hge := none_of_size F ne
  have N₁ : News g L h₁ ((e, ⟨.ref 96, none, .fields #[.ref t, .none, .none, .none, .bool false, .none], #[]⟩) :: news) := news_cons he heL hge fun p hp => ⟨kp _ _ (N p hp).1, (N p hp).2⟩
  have hpe : ∀ p ∈ news, p.1 ≠ e := fun p hp q => by have := (N p hp).1; rw [q] at this; exact absurd (this.symm.trans ne) (by simp)
  have hA' : (A.under (.builtin "type.__call__" ⟨[.ref 96, v1, v2], []⟩)).frames = some (env :: outer) := hA
  refine wpAny_call ?_
  k_dflt (refine' enter (binds := [(Str.ofString "self", .ref e), (Str.ofString "symbol", v1), (Str.ofString "data", v2)]) B F₁ X N₁ T hA' hf hke ?k6 ?k7 ?k8 ?k9 ?kB ?_ ?c2 ?c3 ?c4 ?c5; (case k6 => k_is); (case k7 => k_is); (case k8 => first | ktr_room | (show A.depth + 1 < _; omega)); (case k9 => exact BindsTo.of_eq rfl); (case c5 => decide); (case kB => exact locs rfl); (case c2 => exact rfl); (case c3 => exact rfl); (case c4 => exact rfl); k_whole; intro g' L' h' tk0 FG' F' N' B' X' T' hg'; (try dsimp only); (try k_fold); (try (refine letA ?_; intro Ak)))
  (repeat' (first | (k_unfold; (try dsimp only)) | (k_end; kc_close) | ((with_reducible show wpAny _ _ (execs (_ :: _) _) _ _ _); (with_reducible refine wpAny_execs_cons ?_); first | k_fold | (try dsimp only)) | (k_closed; first | ((with_reducible refine ite_pos ?_ ?_); (focus (k_dflt decide))) | ((with_reducible refine ite_neg ?_ ?_); (focus (k_dflt decide)))) | ((with_reducible show wpAny _ _ (setAttr (.ref _) _ _) _ _ _); (refine halt ?_)) | ((with_reducible show wpAny _ _ (exec (.While _ _ _ _) _) _ _ _); refine halt ?_) | ((with_reducible show wpAny _ _ (exec (.For _ _ _ _ _) _) _ _ _); refine halt ?_) | ((with_reducible show wpAny _ _ (eval (.Name _ _) _) _ _ _); k_here; k_dflt (refine' ld ?k1 ?k2 ?_; (case k1 => k_asm); (case k2 => first | with_reducible assumption | exact rfl | assumption); k_whole)) | walk1 | (dsimp only; walk1) | (leave1; (try dsimp only))))
  refine unhalt ?_
  refine sig_first (X'.keeps F'.keep) ⟨(N' _ (.head _)).1, rfl, rfl, trivial⟩ (by k_is) (by k_is) ?_
  intro h2 tk2 keep2 e2 ns2
  obtain ⟨d2, hd2⟩ : ∃ d, d = h'.objs.size := ⟨_, rfl⟩
  dsimp only at e2 ns2 keep2
  rw [← hd2] at e2 ns2
  have hnd : h'.get? d2 = none := Heap.get?_none_of_le (Nat.le_of_eq hd2.symm)
  have he' := (N' _ (.head _))
  have hed : d2 ≠ e := fun q => by rw [q] at hnd; exact absurd (hnd.symm.trans he'.1) (by simp)
  have hLd : d2 ≠ L' := fun q => by
    (refine cps ?_; intro G9 out9)
    obtain ⟨⟨o, es, ep, eo, r⟩, _, _⟩ := F'
    (refine out9 ?_; clear out9 G9)
    rw [q] at hnd
    exact absurd (hnd.symm.trans eo) (by simp)
  have hgd := none_of_size F' hnd
  have F2 := fr_but F' keep2 he'.2.1 he'.2.2
  have Nn : News g' L' h2 news := news_but (fun p hp => N' p (List.mem_cons_of_mem _ hp)) keep2 hpe
  have hpd : ∀ p ∈ news, p.1 ≠ d2 := fun p hp q => by have := (N' p (List.mem_cons_of_mem _ hp)).1; rw [q] at this; exact absurd (this.symm.trans hnd) (by simp)
  clear F'
  clear N'
  dsimp only
  have N2 : News g' L' h2 [] := News.nil
  (repeat' (first | (k_unfold; (try dsimp only)) | (k_end; kc_close) | ((with_reducible show wpAny _ _ (execs (_ :: _) _) _ _ _); (with_reducible refine wpAny_execs_cons ?_); first | k_fold | (try dsimp only)) | (k_closed; first | ((with_reducible refine ite_pos ?_ ?_); (focus (k_dflt decide))) | ((with_reducible refine ite_neg ?_ ?_); (focus (k_dflt decide)))) | ((with_reducible show wpAny _ _ (setAttr (.ref _) _ _) _ _ _); (refine halt ?_)) | ((with_reducible show wpAny _ _ (exec (.While _ _ _ _) _) _ _ _); refine halt ?_) | ((with_reducible show wpAny _ _ (exec (.For _ _ _ _ _) _) _ _ _); refine halt ?_) | ((with_reducible show wpAny _ _ (eval (.Name _ _) _) _ _ _); k_here; k_dflt (refine' ld ?k1 ?k2 ?_; (case k1 => k_asm); (case k2 => first | with_reducible assumption | exact rfl | assumption); k_whole)) | walk1 | (dsimp only; walk1) | (leave1; (try dsimp only))))
  refine unhalt ?_
  refine sig_next (X'.keeps F2.keep) e2 rfl rfl rfl hed ns2 (PySem.Within.cons _ _ PySem.Within.nil) (by decide) (by k_is) (by k_is) ?_
  intro h3 tk3 keep3 ns3
  have F3 := fr_but F2 keep3 hLd hgd
  have Nn3 : News g' L' h3 news := news_but Nn keep3 hpd
  have e3 := keep3 _ _ hed.symm e2
  (refine cps ?_; intro G9 out9)
  obtain ⟨oD, esD, epD, eD, rD⟩ := id ns3
  (refine out9 ?_; clear out9 G9)
  have N3 : News g' L' h3 ((e, { cls := .ref 96, dict := some d2, data := .fields #[.ref t, .none, .none, .none, .bool false, .none] }) :: (d2, oD) :: news) := news_cons e3 he'.2.1 he'.2.2 (news_cons eD hLd hgd Nn3)
  clear F2 N2 Nn Nn3
  dsimp only
  (repeat' (first | (k_unfold; (try dsimp only)) | (k_end; kc_close) | ((with_reducible show wpAny _ _ (execs (_ :: _) _) _ _ _); (with_reducible refine wpAny_execs_cons ?_); first | k_fold | (try dsimp only)) | (k_closed; first | ((with_reducible refine ite_pos ?_ ?_); (focus (k_dflt decide))) | ((with_reducible refine ite_neg ?_ ?_); (focus (k_dflt decide)))) | ((with_reducible show wpAny _ _ (setAttr (.ref _) _ _) _ _ _); (refine halt ?_)) | ((with_reducible show wpAny _ _ (exec (.While _ _ _ _) _) _ _ _); refine halt ?_) | ((with_reducible show wpAny _ _ (exec (.For _ _ _ _ _) _) _ _ _); refine halt ?_) | ((with_reducible show wpAny _ _ (eval (.Name _ _) _) _ _ _); k_here; k_dflt (refine' ld ?k1 ?k2 ?_; (case k1 => k_asm); (case k2 => first | with_reducible assumption | exact rfl | assumption); k_whole)) | walk1 | (dsimp only; walk1) | (leave1; (try dsimp only))))
  rename Fr g L _ m => kF
  rename News g L _ _ => kN
  have q1 := kN _ (.head _)
  have q2 := kN _ (.tail _ (.head _))
  exact k h3 tk3 e _ t d2 _ kF (fun p hp => kN p (.tail _ (.tail _ hp))) q1.1 rfl rfl rfl q1.2.2 q2.2.2 hed heL q2.2.1 hpe hpd ns3 (by rfl) (by rfl)
end
-- X4
noncomputable section
set_option maxRecDepth 100000

/-- a contract of a def that may raise a scan's error -/
noncomputable def DoesR (w : World) (d u : Nat) (P : Heap → Prop) (f : Addr) (vs : List Value) (news : Led) (R : Value → Led → Prop) (X : Sig → Prop) : Prop :=
  ∀ (mean : ExcName → Option Value) (mg mb : Str → Option Value) (dp un : Nat) (gd : Option (List Code)) (cn : Str) (cs : Scope) (a : Addr) (ccd : Value) (cl : List (Str × Addr)) (outer : List Env) (A₀ : Around) (base h₀ : Heap) (L : Addr) (m : Str → Option Value) (s : Shared) (g₀ : Heap)
    (Q E : Value → Shared → Prop),
    Below A₀ base outer h₀ → Fr h₀ L s.heap m → (K w.params).In h₀ → News h₀ L s.heap news → Tp mean mg mb h₀ → cs.kind = .function →
    P g₀ → g₀.StaysIn s.heap → (∀ p ∈ news, g₀.get? p.1 = none) → dp + d < recursionLimit → un + u < cLine →
    (∀ r nx h' tk', Fr h₀ L h' m → News h₀ L h' nx → Kept s.heap news h' → R r nx → Q r { s with heap := h', toks := tk' }) →
    (∀ e g h' tk', Thrown base (envX cn cs L a ccd cl :: outer) s.heap news e g h' → X g → E (.ref e) { s with heap := h', toks := tk' }) →
    wpAny (model Pg w) (ktrTop dp un gd cn cs L a ccd cl outer) (call (.ref f) vs) Q E s

section
variable {M : Model} {A A₁ : Around} {E : Value → Shared → Prop} {s s' : Shared} {base g' hs : Heap} {outer' : List Env} {env : Env} {L' e dx lc t : Addr} {m' : Str → Option Value} {news news1 : Led} {oe : Obj}
theorem News.sub {g h : Heap} {L : Addr} {led' led : Led} (N : News g L h led') (sub : ∀ p ∈ led, p ∈ led') : News g L h led := fun p hp => N p (sub p hp)
theorem Does.led {w : World} {d u : Nat} {P : Heap → Prop} {f : Addr} {vs : List Value} {led led' : Led} {R : Value → Led → Prop} (D : Does w d u P f vs led R)
    {mean : ExcName → Option Value} {mg mb : Str → Option Value} {dp un : Nat} {gd : Option (List Code)} {cn : Str} {cs : Scope} {a : Addr} {ccd : Value} {cl : List (Str × Addr)} {outer : List Env} {A₀ : Around} {base h₀ : Heap} {L : Addr} {m : Str → Option Value} {s : Shared}
    {Q E : Value → Shared → Prop} (B : Below A₀ base outer h₀) (F : Fr h₀ L s.heap m) (X : (K w.params).In h₀) (N : News h₀ L s.heap led') (sub : ∀ p ∈ led, p ∈ led') (T : Tp mean mg mb h₀) (hk : cs.kind = .function) (hP : P h₀) (hd : dp + d < recursionLimit) (hu : un + u < cLine)
    (k : ∀ r nx h' tk', Fr h₀ L h' m → News h₀ L h' nx → R r nx → Q r { s with heap := h', toks := tk' }) :
    wpAny (model Pg w) (ktrTop dp un gd cn cs L a ccd cl outer) (call (.ref f) vs) Q E s :=
  D mean mg mb dp un gd cn cs a ccd cl outer A₀ base h₀ L m s h₀ Q E B F X (News.sub N sub) T hk hP F.keep (fun p hp => (N p (sub p hp)).2.2) hd hu fun r nx h' tk' F' N' _ hr => k r nx h' tk' F' N' hr
theorem DoesR.led {w : World} {d u : Nat} {P : Heap → Prop} {f : Addr} {vs : List Value} {led led' : Led} {R : Value → Led → Prop} {XX : Sig → Prop} (D : DoesR w d u P f vs led R XX)
    {mean : ExcName → Option Value} {mg mb : Str → Option Value} {dp un : Nat} {gd : Option (List Code)} {cn : Str} {cs : Scope} {a : Addr} {ccd : Value} {cl : List (Str × Addr)} {outer : List Env} {A₀ : Around} {base h₀ : Heap} {L : Addr} {m : Str → Option Value} {s : Shared}
    {Q E : Value → Shared → Prop} (B : Below A₀ base outer h₀) (F : Fr h₀ L s.heap m) (X : (K w.params).In h₀) (N : News h₀ L s.heap led') (sub : ∀ p ∈ led, p ∈ led') (T : Tp mean mg mb h₀) (hk : cs.kind = .function) (hP : P h₀) (hd : dp + d < recursionLimit) (hu : un + u < cLine)
    (k : ∀ r nx h' tk', Fr h₀ L h' m → News h₀ L h' nx → R r nx → Q r { s with heap := h', toks := tk' })
    (k2 : ∀ e g h' tk', Thrown base (envX cn cs L a ccd cl :: outer) s.heap led e g h' → XX g → E (.ref e) { s with heap := h', toks := tk' }) :
    wpAny (model Pg w) (ktrTop dp un gd cn cs L a ccd cl outer) (call (.ref f) vs) Q E s :=
  D mean mg mb dp un gd cn cs a ccd cl outer A₀ base h₀ L m s h₀ Q E B F X (News.sub N sub) T hk hP F.keep (fun p hp => (N p (sub p hp)).2.2) hd hu (fun r nx h' tk' F' N' _ hr => k r nx h' tk' F' N' hr) k2
/-- what is known of an error that has just been made -/
structure Fresh (w : World) (g' : Heap) (L' : Addr) (news1 : Led) (h : Heap) (e : Addr) (v1 v2 : Value) : Prop where
  all : ∃ oe t dx mA, h.get? e = some oe ∧ oe.cls = .ref 96 ∧ oe.data = .fields #[.ref t, .none, .none, .none, .bool false, .none] ∧ oe.dict = some dx ∧ g'.get? e = none ∧ g'.get? dx = none ∧ dx ≠ e ∧ e ≠ L' ∧ dx ≠ L' ∧
    (∀ p ∈ news1, p.1 ≠ e) ∧ (∀ p ∈ news1, p.1 ≠ dx) ∧ h.Ns1 dx mA ∧ mA (Str.ofString "symbol") = some v1 ∧ mA (Str.ofString "data") = some v2
theorem make_sig2 {w : World} {A A₀ : Around} {base g : Heap} {outer : List Env} {env : Env} {L : Addr} {m : Str → Option Value} {s : Shared} {news : Led} {mean : ExcName → Option Value} {mg mb : Str → Option Value} {Q E : Value → Shared → Prop} {v1 v2 : Value}
    (B : Below A₀ base outer g) (F : Fr g L s.heap m) (X : (K w.params).In g) (N : News g L s.heap news) (T : Tp mean mg mb g) (hA : A.frames = some (env :: outer)) (hf : env.frame = some L) (hke : env.scope.kind = .function) (hroom : A.depth + 2 < recursionLimit)
    (k : ∀ h' tk' e, Fr g L h' m → News g L h' news → Fresh w g L news h' e v1 v2 → Q (.ref e) { s with heap := h', toks := tk' }) :
    wpAny (model Pg w) A (call (.ref 96) [v1, v2]) Q E s :=
  make_sig B F X N T hA hf hke hroom fun h' tk' e oe t dx mA a b c d e1 e2 e3 e4 e5 e6 e7 e8 e9 f1 f2 f3 => k h' tk' e a b ⟨oe, t, dx, mA, c, d, e1, e2, e3, e4, e5, e6, e7, e8, e9, f1, f2, f3⟩
theorem raise_sig {w : World} {x : Sem Value} {Q : Flow → Shared → Prop} (hh : A.handled = none)
    (h : wpAny (model Pg w) A x (fun v s₁ => ∃ e g' L' n1 v1 v2, v = .ref e ∧ (K w.params).In s₁.heap ∧ Fresh w g' L' n1 s₁.heap e v1 v2 ∧ E (.ref e) s₁) E s) :
    wpAny (model Pg w) A (raiseStmt env (some x) none) Q E s := by
  unfold raiseStmt
  refine wpAny_bind (wpAny_mono h (fun v s₁ h₁ => ?_) fun _ _ x => x)
  obtain ⟨e, g', L', n1, v1, v2, rfl, X, ⟨oe, t, dx, mA, he, hc, hd, _⟩, hE⟩ := h₁
  obtain ⟨hp, g, d, tk, os⟩ := s₁
  have hC := X 96 _ (by k_is)
  have hC' : hp.get? 96 = some (excClassObj (S "LispSignal") (S "LispSignal") 96 95 [.type "Exception"] [.type "Exception", .type "BaseException", .type "object"] true [] [] false none none (some (.ref 80)) none (some (.str (S "LispSignal") 302)) (some (.str (S "LispSignal") 310)) (some (.bool true)) "Exception.__new__") := hC
  have hcB : ([Value.ref 96, .type "Exception", .type "BaseException", .type "object"]).contains (.type "BaseException") = true := by decide +kernel
  repeat (first | (with_reducible refine wpAny_loadPart_at he ?_; rw [hc]) | with_reducible refine wpAny_loadPart_at hC' ?_ | (with_reducible refine wpAny_isSubtype_exc hC' ?_; rw [hcB]) | wp_step)
  rw [hd]
  refine wpAny_pure (wpAny_pure ?_)
  rw [if_neg (by simp)]
  exact wpAny_pure (wpAny_raiseNew_none hh hE)
@[irreducible] def Raised1 (w : World) (E : Value → Shared → Prop) (v : Value) (s₁ : Shared) : Prop := ∃ e g' L' n1 v1 v2, v = .ref e ∧ (K w.params).In s₁.heap ∧ Fresh w g' L' n1 s₁.heap e v1 v2 ∧ E (.ref e) s₁
theorem raised1 {w : World} {s₁ : Shared} {v1 v2 : Value} (X : (K w.params).In s₁.heap) (S : Fresh w g' L' news1 s₁.heap e v1 v2) (hE : E (.ref e) s₁) : Raised1 w E (.ref e) s₁ := by
  unfold Raised1
  exact ⟨_, _, _, _, _, _, rfl, X, S, hE⟩
theorem raise_exec {w : World} {x : Expr} {pos : Pos} {Q : Flow → Shared → Prop} (hh : A.handled = none)
    (h : wpAny (model Pg w) A (eval x env) (fun v s₁ => Raised1 w E v s₁) E s) :
    wpAny (model Pg w) A (exec (.Raise (some x) none pos) env) Q E s := by
  rw [arm_exec_Raise]
  refine wpAny_bind (wpAny_standAt (raise_sig hh (wpAny_bind (wpAny_mono h (fun v s₁ z => ?_) fun _ _ z => z))))
  unfold Raised1 at z
  exact wpAny_bind (wpAny_standAt (wpAny_pure z))
/-- a new error leaves its first frame -/
theorem leave_sig {w : World} {g : Sig} {v1 v2 : Value} {t0 t1 t2 t3 : Tok} {n : Nat} {Q : Unit → Shared → Prop} (hfr : A₁.frames = some (env :: outer')) (hf : env.frame = some L') (hke : env.scope.kind = .function) (B' : Below A base outer' g') (F : Fr g' L' s'.heap m') (N : News g' L' s'.heap news1)
    (S : Fresh w g' L' news1 s'.heap e v1 v2) (h1 : v1 = .str (Str.ofString "scan-error") t0) (h2 : v2 = .ref lc) (hl : (lc, listOf #[.str g.msg t1, .int g.good t2, .int g.place t3] n) ∈ news1)
    (hg : ∀ b o, hs.get? b = some o → (∀ p ∈ news, p.1 ≠ b) → g'.get? b = some o) (hout : ∀ b ∈ frs outer', ∀ p ∈ news, p.1 ≠ b)
    (k : ∀ h', Thrown base outer' hs news e g h' → Q () { s' with heap := h' }) : wpAny M A₁ (leaving env (.ref e)) Q E s' := by
  obtain ⟨oe, t, dx, mA, he, hc, hd, hdx, hge, hgd, hne, heL, hdL, hpe, hpd, ns, hs1, hs2⟩ := S
  subst h1 h2
  have hin : ∀ b, g'.get? b = none → b ≠ L' → b ≠ e → b ∉ e :: frs (env :: outer') := fun b hb hbL hbe hm => by
    rcases List.mem_cons.mp hm with q | q
    · exact hbe q
    · rw [frs_cons hf] at q
      rcases List.mem_cons.mp q with q | q
      · exact hbL q
      · obtain ⟨o, ho, _⟩ := (B'.frames.mem q).2
        rw [hb] at ho; cases ho
  have hL := N _ hl
  refine leave_firstD hfr hf hke B' F he hc hd rfl rfl hdx hge ⟨mA, lc, t0, t1, t2, t3, ?_, hs1, hs2, ?_⟩ hg hout k
  · obtain ⟨o, es, ep, eo, r⟩ := ns
    exact ⟨o, es, ep, hideAll_get _ eo (hin _ hgd hdL hne), r⟩
  · exact ⟨_, hideAll_get _ hL.1 (hin _ hL.2.2 hL.2.1 (hpe _ hl)), rfl, n, rfl⟩
end
end
noncomputable section
set_option maxRecDepth 100000
theorem Does.ledV {w : World} {d u : Nat} {P : Heap → Prop} {f : Addr} {vs : List Value} {led led' : Led} {S : Led → Prop} {v : Value} (D : Does w d u P f vs led (fun r nx => S nx ∧ r = v))
    {mean : ExcName → Option Value} {mg mb : Str → Option Value} {dp un : Nat} {gd : Option (List Code)} {cn : Str} {cs : Scope} {a : Addr} {ccd : Value} {cl : List (Str × Addr)} {outer : List Env} {A₀ : Around} {base h₀ : Heap} {L : Addr} {m : Str → Option Value} {s : Shared}
    {Q E : Value → Shared → Prop} (B : Below A₀ base outer h₀) (F : Fr h₀ L s.heap m) (X : (K w.params).In h₀) (N : News h₀ L s.heap led') (sub : ∀ p ∈ led, p ∈ led') (T : Tp mean mg mb h₀) (hk : cs.kind = .function) (hP : P h₀) (hd : dp + d < recursionLimit) (hu : un + u < cLine)
    (k : ∀ nx h' tk', Fr h₀ L h' m → News h₀ L h' nx → S nx → Q v { s with heap := h', toks := tk' }) :
    wpAny (model Pg w) (ktrTop dp un gd cn cs L a ccd cl outer) (call (.ref f) vs) Q E s :=
  Does.led D B F X N sub T hk hP hd hu fun r nx h' tk' F' N' hr => by obtain ⟨hS, hr⟩ := hr; subst hr; exact k nx h' tk' F' N' hS
theorem Does.ledI {w : World} {d u : Nat} {P : Heap → Prop} {f : Addr} {vs : List Value} {led led' : Led} {S : Led → Prop} (D : Does w d u P f vs led (fun r nx => S nx ∧ ∃ q, IsI r q))
    {mean : ExcName → Option Value} {mg mb : Str → Option Value} {dp un : Nat} {gd : Option (List Code)} {cn : Str} {cs : Scope} {a : Addr} {ccd : Value} {cl : List (Str × Addr)} {outer : List Env} {A₀ : Around} {base h₀ : Heap} {L : Addr} {m : Str → Option Value} {s : Shared}
    {Q E : Value → Shared → Prop} (B : Below A₀ base outer h₀) (F : Fr h₀ L s.heap m) (X : (K w.params).In h₀) (N : News h₀ L s.heap led') (sub : ∀ p ∈ led, p ∈ led') (T : Tp mean mg mb h₀) (hk : cs.kind = .function) (hP : P h₀) (hd : dp + d < recursionLimit) (hu : un + u < cLine)
    (k : ∀ nx q t h' tk', Fr h₀ L h' m → News h₀ L h' nx → S nx → Q (.int q t) { s with heap := h', toks := tk' }) :
    wpAny (model Pg w) (ktrTop dp un gd cn cs L a ccd cl outer) (call (.ref f) vs) Q E s :=
  Does.led D B F X N sub T hk hP hd hu fun r nx h' tk' F' N' hr => by obtain ⟨hS, q, t, hr⟩ := hr; subst hr; exact k nx q t h' tk' F' N' hS
theorem DoesR.ledV {w : World} {d u : Nat} {P : Heap → Prop} {f : Addr} {vs : List Value} {led led' : Led} {S : Led → Prop} {v : Value} {C : Prop} {XX : Sig → Prop} (D : DoesR w d u P f vs led (fun r nx => S nx ∧ r = v ∧ C) XX)
    {mean : ExcName → Option Value} {mg mb : Str → Option Value} {dp un : Nat} {gd : Option (List Code)} {cn : Str} {cs : Scope} {a : Addr} {ccd : Value} {cl : List (Str × Addr)} {outer : List Env} {A₀ : Around} {base h₀ : Heap} {L : Addr} {m : Str → Option Value} {s : Shared}
    {Q E : Value → Shared → Prop} (B : Below A₀ base outer h₀) (F : Fr h₀ L s.heap m) (X : (K w.params).In h₀) (N : News h₀ L s.heap led') (sub : ∀ p ∈ led, p ∈ led') (T : Tp mean mg mb h₀) (hk : cs.kind = .function) (hP : P h₀) (hd : dp + d < recursionLimit) (hu : un + u < cLine)
    (k : ∀ nx h' tk', Fr h₀ L h' m → News h₀ L h' nx → S nx → C → Q v { s with heap := h', toks := tk' })
    (k2 : ∀ e g h' tk', Thrown base (envX cn cs L a ccd cl :: outer) s.heap led e g h' → XX g → E (.ref e) { s with heap := h', toks := tk' }) :
    wpAny (model Pg w) (ktrTop dp un gd cn cs L a ccd cl outer) (call (.ref f) vs) Q E s :=
  DoesR.led D B F X N sub T hk hP hd hu (fun r nx h' tk' F' N' hr => by obtain ⟨hS, hr, hc⟩ := hr; subst hr; exact k nx h' tk' F' N' hS hc) k2
theorem DoesR.ledF {w : World} {d u : Nat} {P : Heap → Prop} {f : Addr} {vs : List Value} {led led' : Led} {XX : Sig → Prop} (D : DoesR w d u P f vs led (fun r nx => False) XX)
    {mean : ExcName → Option Value} {mg mb : Str → Option Value} {dp un : Nat} {gd : Option (List Code)} {cn : Str} {cs : Scope} {a : Addr} {ccd : Value} {cl : List (Str × Addr)} {outer : List Env} {A₀ : Around} {base h₀ : Heap} {L : Addr} {m : Str → Option Value} {s : Shared}
    {Q E : Value → Shared → Prop} (B : Below A₀ base outer h₀) (F : Fr h₀ L s.heap m) (X : (K w.params).In h₀) (N : News h₀ L s.heap led') (sub : ∀ p ∈ led, p ∈ led') (T : Tp mean mg mb h₀) (hk : cs.kind = .function) (hP : P h₀) (hd : dp + d < recursionLimit) (hu : un + u < cLine)
    (k2 : ∀ e g h' tk', Thrown base (envX cn cs L a ccd cl :: outer) s.heap led e g h' → XX g → E (.ref e) { s with heap := h', toks := tk' }) :
    wpAny (model Pg w) (ktrTop dp un gd cn cs L a ccd cl outer) (call (.ref f) vs) Q E s :=
  DoesR.led D B F X N sub T hk hP hd hu (fun r nx h' tk' F' N' hr => hr.elim) k2
theorem DoesR.ledP {w : World} {d u : Nat} {P : Heap → Prop} {f : Addr} {vs : List Value} {led led' : Led} {S : Value → Prop} {XX : Sig → Prop} (D : DoesR w d u P f vs led (fun r nx => nx = [] ∧ S r) XX)
    {mean : ExcName → Option Value} {mg mb : Str → Option Value} {dp un : Nat} {gd : Option (List Code)} {cn : Str} {cs : Scope} {a : Addr} {ccd : Value} {cl : List (Str × Addr)} {outer : List Env} {A₀ : Around} {base h₀ : Heap} {L : Addr} {m : Str → Option Value} {s : Shared}
    {Q E : Value → Shared → Prop} (B : Below A₀ base outer h₀) (F : Fr h₀ L s.heap m) (X : (K w.params).In h₀) (N : News h₀ L s.heap led') (sub : ∀ p ∈ led, p ∈ led') (T : Tp mean mg mb h₀) (hk : cs.kind = .function) (hP : P h₀) (hd : dp + d < recursionLimit) (hu : un + u < cLine)
    (k : ∀ r h' tk', Fr h₀ L h' m → News h₀ L h' [] → S r → Q r { s with heap := h', toks := tk' })
    (k2 : ∀ e g h' tk', Thrown base (envX cn cs L a ccd cl :: outer) s.heap led e g h' → XX g → E (.ref e) { s with heap := h', toks := tk' }) :
    wpAny (model Pg w) (ktrTop dp un gd cn cs L a ccd cl outer) (call (.ref f) vs) Q E s :=
  DoesR.led D B F X N sub T hk hP hd hu (fun r nx h' tk' F' N' hr => by obtain ⟨hn, hS⟩ := hr; subst hn; exact k r h' tk' F' N' hS) k2
end
-- A6
noncomputable section
set_option maxRecDepth 100000

/-- a scan's own numbers -/
structure Sc where
  (place depth least good : Int)
  (isx done : Bool)
noncomputable def IsScan (e : Ar) (x : Addr) (σ : Sc) (nx : Led) : Prop :=
  ∃ (dx : Addr) (hh : Nat → Int) (kk : Nat → Tok), @LT.lt Nat _ dx x ∧ nx = [(x, instObj 512 dx), (dx, dictOf [⟨hh 1, .str (Str.ofString "view") (kk 1), .ref e.v⟩, ⟨hh 2, .str (Str.ofString "table") (kk 2), .ref e.t⟩, ⟨hh 3, .str (Str.ofString "place") (kk 3), .int σ.place (kk 11)⟩, ⟨hh 4, .str (Str.ofString "depth") (kk 4), .int σ.depth (kk 12)⟩, ⟨hh 5, .str (Str.ofString "least") (kk 5), .int σ.least (kk 13)⟩, ⟨hh 6, .str (Str.ofString "good") (kk 6), .int σ.good (kk 14)⟩, ⟨hh 7, .str (Str.ofString "is_expression") (kk 7), .bool σ.isx⟩, ⟨hh 8, .str (Str.ofString "is_paired") (kk 8), .bool false⟩, ⟨hh 9, .str (Str.ofString "is_done") (kk 9), .bool σ.done⟩] 9)]
theorem IsScan.elimE {e : Ar} {x : Addr} {σ : Sc} {nx : Led} {C : Prop} (h : IsScan e x σ nx) (k : ∀ (dx : Addr) (hh : Nat → Int) (kk : Nat → Tok), @LT.lt Nat _ dx x → nx = [(x, instObj 512 dx), (dx, dictOf [⟨hh 1, .str (Str.ofString "view") (kk 1), .ref e.v⟩, ⟨hh 2, .str (Str.ofString "table") (kk 2), .ref e.t⟩, ⟨hh 3, .str (Str.ofString "place") (kk 3), .int σ.place (kk 11)⟩, ⟨hh 4, .str (Str.ofString "depth") (kk 4), .int σ.depth (kk 12)⟩, ⟨hh 5, .str (Str.ofString "least") (kk 5), .int σ.least (kk 13)⟩, ⟨hh 6, .str (Str.ofString "good") (kk 6), .int σ.good (kk 14)⟩, ⟨hh 7, .str (Str.ofString "is_expression") (kk 7), .bool σ.isx⟩, ⟨hh 8, .str (Str.ofString "is_paired") (kk 8), .bool false⟩, ⟨hh 9, .str (Str.ofString "is_done") (kk 9), .bool σ.done⟩] 9)] → C) : C := by
  obtain ⟨dx, hh, kk, q1, hn⟩ := h
  exact k _ _ _ q1 hn
theorem isScan_mk {e : Ar} {x dx : Addr} {h1 h2 h3 h4 h5 h6 h7 h8 h9 p dd l g : Int} {i o : Bool} {k1 k2 k3 k4 k5 k6 k7 k8 k9 t1 t2 t3 t4 : Tok} (hlt : @LT.lt Nat _ dx x) :
    IsScan e x ⟨p, dd, l, g, i, o⟩ [(x, instObj 512 dx), (dx, dictOf [⟨h1, .str (Str.ofString "view") k1, .ref e.v⟩, ⟨h2, .str (Str.ofString "table") k2, .ref e.t⟩, ⟨h3, .str (Str.ofString "place") k3, .int p t1⟩, ⟨h4, .str (Str.ofString "depth") k4, .int dd t2⟩, ⟨h5, .str (Str.ofString "least") k5, .int l t3⟩, ⟨h6, .str (Str.ofString "good") k6, .int g t4⟩, ⟨h7, .str (Str.ofString "is_expression") k7, .bool i⟩, ⟨h8, .str (Str.ofString "is_paired") k8, .bool false⟩, ⟨h9, .str (Str.ofString "is_done") k9, .bool o⟩] 9)] :=
  ⟨dx, fun i => [h1, h1, h2, h3, h4, h5, h6, h7, h8, h9].getD i h1, fun i => [k1, k1, k2, k3, k4, k5, k6, k7, k8, k9, k1, t1, t2, t3, t4].getD i k1, hlt, rfl⟩
noncomputable def Any (_ : Heap) : Prop := True
theorem any_any (g : Heap) : Any g := trivial


set_option maxHeartbeats 4000000 in
theorem counts_does (w : World) (e : Ar) (x : Addr) (σ : Sc) (led : Led) (hl : IsScan e x σ led) :
    Does w 1 8 Any 481 [.ref x] led (fun r nx => IsScan e x σ nx ∧ r = .bool (σ.isx && decide (σ.depth = 0))) := by
  (refine IsScan.elimE hl ?_; clear hl; intro dx hh kk hlt hnx; subst hnx)
  unfold Does
  intro mean mg mb dp un gd cn cs a ccd cl outer A₀ base h₀ L m s g₀ Q E B F X N T hk hP st dj hd hu hret
  refine wpAny_call ?_
  k_dflt (refine' enter (binds := [(Str.ofString "self", .ref x)]) ?k1 ?k2 ?k3 ?k4 ?k5 ?kA ?kF ?kK ?k6 ?k7 ?k8 ?k9 ?kB ?_ ?c2 ?c3 ?c4 ?c5; (case kA => exact rfl); (case kF => exact rfl); (case kK => assumption); (case k1 => k_asm); (case k2 => k_asm); (case k3 => k_asm); (case k4 => k_asm); (case k5 => k_asm); (case k6 => k_is); (case k7 => k_is); (case k8 => ktr_room); (case k9 => first | exact BindsTo.of_eq rfl | exact binds_K (by k_in) rfl (by k_is) rfl rfl rfl); (case c5 => decide); (case kB => exact locs rfl); (case c2 => exact rfl); (case c3 => exact rfl); (case c4 => exact rfl); k_whole; intro g' L' h' tk0 FG' F' N' B' X' T' hg'; (try dsimp only); (try k_fold); (try (refine letA ?_; intro Ak)))
  clear hP st dj
  (repeat' (first | (k_unfold; (try dsimp only)) | (k_end; kc_close) | ((with_reducible show wpAny _ _ (execs (_ :: _) _) _ _ _); (with_reducible refine wpAny_execs_cons ?_); first | k_fold | (try dsimp only)) | (k_closed; first | ((with_reducible refine ite_pos ?_ ?_); (focus (k_dflt decide))) | ((with_reducible refine ite_neg ?_ ?_); (focus (k_dflt decide)))) | ((with_reducible show wpAny _ _ (call (.ref _) _) _ _ _); first | ((with_reducible show wpAny _ _ (call (.ref 96) _) _ _ _); (k_dflt (refine' make_sig2 ?uB ?uF ?uX ?uN ?uT ?u1 ?u2 ?u3 ?ud ?_; (case uB => k_asm); (case uF => k_asm); (case uX => k_asm); (case uN => k_asm); (case uT => k_asm); (case u1 => exact rfl); (case u2 => exact rfl); (case u3 => exact rfl); (case ud => ktr_room); k_whole; intro hZ tkZ eZ FZ NZ SZ; (try k_sweep); (try dsimp only))))) | ((with_reducible show wpAny _ _ (exec (.Raise (some _) none _) _) _ _ _); (k_dflt (refine' raise_exec ?hh ?_; (case hh => exact rfl)))) | ((with_reducible show wpAny _ _ (exec (.While _ _ _ _) _) _ _ _); refine halt ?_) | ((with_reducible show wpAny _ _ (exec (.For _ _ _ _ _) _) _ _ _); refine halt ?_) | ((with_reducible show wpAny _ _ (eval (.Name _ _) _) _ _ _); k_here; k_dflt (refine' ld ?k1 ?k2 ?_; (case k1 => k_asm); (case k2 => first | with_reducible assumption | exact rfl | assumption); k_whole)) | walk1 | (dsimp only; with_reducible show wpAny _ _ (call (.ref _) _) _ _ _) | (dsimp only; walk1) | (leave1; (try dsimp only))))
  all_goals (refine hret _ _ _ _ (by assumption) (by assumption) (Kept.of_frame hg' (by assumption)) ⟨isScan_mk hlt, ?_⟩)
  · rename σ.isx = true => hi
    rw [hi]; rfl
  · rename σ.isx = false => hi
    rw [hi]; rfl

set_option maxHeartbeats 4000000 in
theorem deeper_does (w : World) (e : Ar) (x : Addr) (σ : Sc) (led : Led) (hl : IsScan e x σ led) :
    Does w 1 8 Any 495 [.ref x] led (fun r nx => IsScan e x { σ with depth := σ.depth + 1, done := decide (σ.depth + 1 = 0) } nx ∧ r = .none) := by
  (refine IsScan.elimE hl ?_; clear hl; intro dx hh kk hlt hnx; subst hnx)
  unfold Does
  intro mean mg mb dp un gd cn cs a ccd cl outer A₀ base h₀ L m s g₀ Q E B F X N T hk hP st dj hd hu hret
  refine wpAny_call ?_
  k_dflt (refine' enter (binds := [(Str.ofString "self", .ref x)]) ?k1 ?k2 ?k3 ?k4 ?k5 ?kA ?kF ?kK ?k6 ?k7 ?k8 ?k9 ?kB ?_ ?c2 ?c3 ?c4 ?c5; (case kA => exact rfl); (case kF => exact rfl); (case kK => assumption); (case k1 => k_asm); (case k2 => k_asm); (case k3 => k_asm); (case k4 => k_asm); (case k5 => k_asm); (case k6 => k_is); (case k7 => k_is); (case k8 => ktr_room); (case k9 => first | exact BindsTo.of_eq rfl | exact binds_K (by k_in) rfl (by k_is) rfl rfl rfl); (case c5 => decide); (case kB => exact locs rfl); (case c2 => exact rfl); (case c3 => exact rfl); (case c4 => exact rfl); k_whole; intro g' L' h' tk0 FG' F' N' B' X' T' hg'; (try dsimp only); (try k_fold); (try (refine letA ?_; intro Ak)))
  clear hP st dj
  (repeat' (first | (k_unfold; (try dsimp only)) | (k_end; kc_close) | ((with_reducible show wpAny _ _ (execs (_ :: _) _) _ _ _); (with_reducible refine wpAny_execs_cons ?_); (try dsimp only)) | (k_closed; first | ((with_reducible refine ite_pos ?_ ?_); (focus (k_dflt decide))) | ((with_reducible refine ite_neg ?_ ?_); (focus (k_dflt decide)))) | ((with_reducible show wpAny _ _ (call (.ref _) _) _ _ _); first | ((with_reducible show wpAny _ _ (call (.ref 96) _) _ _ _); (k_dflt (refine' make_sig2 ?uB ?uF ?uX ?uN ?uT ?u1 ?u2 ?u3 ?ud ?_; (case uB => k_asm); (case uF => k_asm); (case uX => k_asm); (case uN => k_asm); (case uT => k_asm); (case u1 => exact rfl); (case u2 => exact rfl); (case u3 => exact rfl); (case ud => ktr_room); k_whole; intro hZ tkZ eZ FZ NZ SZ; (try k_sweep); (try dsimp only))))) | ((with_reducible show wpAny _ _ (exec (.Raise (some _) none _) _) _ _ _); (k_dflt (refine' raise_exec ?hh ?_; (case hh => exact rfl)))) | ((with_reducible show wpAny _ _ (exec (.While _ _ _ _) _) _ _ _); refine halt ?_) | ((with_reducible show wpAny _ _ (exec (.For _ _ _ _ _) _) _ _ _); refine halt ?_) | ((with_reducible show wpAny _ _ (eval (.Name _ _) _) _ _ _); k_here; k_dflt (refine' ld ?k1 ?k2 ?_; (case k1 => k_asm); (case k2 => first | with_reducible assumption | exact rfl | assumption); k_whole)) | walk1 | (dsimp only; with_reducible show wpAny _ _ (call (.ref _) _) _ _ _) | (dsimp only; walk1) | (leave1; (try dsimp only))))
  all_goals (refine hret _ _ _ _ (by assumption) (by assumption) (Kept.of_frame hg' (by assumption)) ⟨isScan_mk hlt, rfl⟩)

set_option maxHeartbeats 4000000 in
theorem lost_does (w : World) (e : Ar) (x : Addr) (σ : Sc) (led : Led) (hl : IsScan e x σ led) :
    DoesR w 3 24 Any 488 [.ref x] led (fun r nx => False) (fun g => g = ⟨Str.ofString "Unbalanced parentheses", σ.good, σ.place⟩) := by
  (refine IsScan.elimE hl ?_; clear hl; intro dx hh kk hlt hnx; subst hnx)
  unfold DoesR
  intro mean mg mb dp un gd cn cs a ccd cl outer A₀ base h₀ L m s g₀ Q E B F X N T hk hP st dj hd hu hret hexc
  refine wpAny_call ?_
  k_dflt (refine' enter (binds := [(Str.ofString "self", .ref x)]) ?k1 ?k2 ?k3 ?k4 ?k5 ?kA ?kF ?kK ?k6 ?k7 ?k8 ?k9 ?kB ?_ ?c2 ?c3 ?c4 ?c5; (case kA => exact rfl); (case kF => exact rfl); (case kK => assumption); (case k1 => k_asm); (case k2 => k_asm); (case k3 => k_asm); (case k4 => k_asm); (case k5 => k_asm); (case k6 => k_is); (case k7 => k_is); (case k8 => ktr_room); (case k9 => first | exact BindsTo.of_eq rfl | exact binds_K (by k_in) rfl (by k_is) rfl rfl rfl); (case c5 => decide); (case kB => exact locs rfl); (case c2 => exact rfl); (case c3 => exact rfl); (case c4 => exact rfl); k_whole; intro g' L' h' tk0 FG' F' N' B' X' T' hg'; (try dsimp only); (try k_fold); (try (refine letA ?_; intro Ak)))
  clear hP st dj
  (repeat' (first | (k_unfold; (try dsimp only)) | (k_end; kc_close) | ((with_reducible show wpAny _ _ (execs (_ :: _) _) _ _ _); (with_reducible refine wpAny_execs_cons ?_); first | k_fold | (try dsimp only)) | (k_closed; first | ((with_reducible refine ite_pos ?_ ?_); (focus (k_dflt decide))) | ((with_reducible refine ite_neg ?_ ?_); (focus (k_dflt decide)))) | ((with_reducible show wpAny _ _ (call (.ref _) _) _ _ _); first | ((with_reducible show wpAny _ _ (call (.ref 96) _) _ _ _); (k_dflt (refine' make_sig2 ?uB ?uF ?uX ?uN ?uT ?u1 ?u2 ?u3 ?ud ?_; (case uB => k_asm); (case uF => k_asm); (case uX => k_asm); (case uN => k_asm); (case uT => k_asm); (case u1 => exact rfl); (case u2 => exact rfl); (case u3 => exact rfl); (case ud => ktr_room); k_whole; intro hZ tkZ eZ FZ NZ SZ; (try k_sweep); (try dsimp only))))) | ((with_reducible show wpAny _ _ (exec (.Raise (some _) none _) _) _ _ _); (k_dflt (refine' raise_exec ?hh ?_; (case hh => exact rfl)))) | ((with_reducible show wpAny _ _ (exec (.While _ _ _ _) _) _ _ _); refine halt ?_) | ((with_reducible show wpAny _ _ (exec (.For _ _ _ _ _) _) _ _ _); refine halt ?_) | ((with_reducible show wpAny _ _ (eval (.Name _ _) _) _ _ _); k_here; k_dflt (refine' ld ?k1 ?k2 ?_; (case k1 => k_asm); (case k2 => first | with_reducible assumption | exact rfl | assumption); k_whole)) | walk1 | (dsimp only; with_reducible show wpAny _ _ (call (.ref _) _) _ _ _) | (dsimp only; walk1) | (leave1; (try dsimp only))))
  refine raised1 (X'.keeps (Fr.keep (by assumption))) (by assumption) ?_
  show wpAny _ _ (leaving _ _) _ _ _
  refine leave_sig (g := ⟨Str.ofString "Unbalanced parentheses", σ.good, σ.place⟩) (outer' := envX cn cs L a ccd cl :: outer) rfl rfl rfl B' (by assumption) (by assumption) (by assumption) rfl rfl (by k_mem) hg' (hout_of B N rfl) ?_
  intro h5 TH
  exact hexc _ _ _ _ TH rfl

set_option maxHeartbeats 4000000 in
theorem shallower_does (w : World) (e : Ar) (x : Addr) (σ : Sc) (led : Led) (hl : IsScan e x σ led) (p : Int) (t : Tok) :
    DoesR w 3 24 Any 502 [.ref x, .int p t] led (fun r nx => IsScan e x { σ with depth := σ.depth - 1, done := decide (σ.depth - 1 = 0) } nx ∧ r = .none ∧ ¬ (σ.depth - 1 < σ.least))
      (fun g => g = ⟨Str.ofString "Containing expression ends prematurely", σ.good, p⟩ ∧ σ.depth - 1 < σ.least) := by
  (refine IsScan.elimE hl ?_; clear hl; intro dx hh kk hlt hnx; subst hnx)
  unfold DoesR
  intro mean mg mb dp un gd cn cs a ccd cl outer A₀ base h₀ L m s g₀ Q E B F X N T hk hP st dj hd hu hret hexc
  refine wpAny_call ?_
  k_dflt (refine' enter (binds := [(Str.ofString "self", .ref x), (Str.ofString "end", .int p t)]) ?k1 ?k2 ?k3 ?k4 ?k5 ?kA ?kF ?kK ?k6 ?k7 ?k8 ?k9 ?kB ?_ ?c2 ?c3 ?c4 ?c5; (case kA => exact rfl); (case kF => exact rfl); (case kK => assumption); (case k1 => k_asm); (case k2 => k_asm); (case k3 => k_asm); (case k4 => k_asm); (case k5 => k_asm); (case k6 => k_is); (case k7 => k_is); (case k8 => ktr_room); (case k9 => first | exact BindsTo.of_eq rfl | exact binds_K (by k_in) rfl (by k_is) rfl rfl rfl); (case c5 => decide); (case kB => exact locs rfl); (case c2 => exact rfl); (case c3 => exact rfl); (case c4 => exact rfl); k_whole; intro g' L' h' tk0 FG' F' N' B' X' T' hg'; (try dsimp only); (try k_fold); (try (refine letA ?_; intro Ak)))
  clear hP st dj
  (repeat' (first | (k_unfold; (try dsimp only)) | (k_end; kc_close) | ((with_reducible show wpAny _ _ (execs (_ :: _) _) _ _ _); (with_reducible refine wpAny_execs_cons ?_); (try dsimp only)) | (k_closed; first | ((with_reducible refine ite_pos ?_ ?_); (focus (k_dflt decide))) | ((with_reducible refine ite_neg ?_ ?_); (focus (k_dflt decide)))) | ((with_reducible show wpAny _ _ (call (.ref _) _) _ _ _); first | ((with_reducible show wpAny _ _ (call (.ref 96) _) _ _ _); (k_dflt (refine' make_sig2 ?uB ?uF ?uX ?uN ?uT ?u1 ?u2 ?u3 ?ud ?_; (case uB => k_asm); (case uF => k_asm); (case uX => k_asm); (case uN => k_asm); (case uT => k_asm); (case u1 => exact rfl); (case u2 => exact rfl); (case u3 => exact rfl); (case ud => ktr_room); k_whole; intro hZ tkZ eZ FZ NZ SZ; (try k_sweep); (try dsimp only))))) | ((with_reducible show wpAny _ _ (exec (.Raise (some _) none _) _) _ _ _); (k_dflt (refine' raise_exec ?hh ?_; (case hh => exact rfl)))) | ((with_reducible show wpAny _ _ (exec (.While _ _ _ _) _) _ _ _); refine halt ?_) | ((with_reducible show wpAny _ _ (exec (.For _ _ _ _ _) _) _ _ _); refine halt ?_) | ((with_reducible show wpAny _ _ (eval (.Name _ _) _) _ _ _); k_here; k_dflt (refine' ld ?k1 ?k2 ?_; (case k1 => k_asm); (case k2 => first | with_reducible assumption | exact rfl | assumption); k_whole)) | walk1 | (dsimp only; with_reducible show wpAny _ _ (call (.ref _) _) _ _ _) | (dsimp only; walk1) | (leave1; (try dsimp only))))
  · refine raised1 (X'.keeps (Fr.keep (by assumption))) (by assumption) ?_
    show wpAny _ _ (leaving _ _) _ _ _
    refine leave_sig (g := ⟨Str.ofString "Containing expression ends prematurely", σ.good, p⟩) (outer' := envX cn cs L a ccd cl :: outer) rfl rfl rfl B' (by assumption) (by assumption) (by assumption) rfl rfl (by k_mem) hg' (hout_of B N rfl) ?_
    intro h5 TH
    exact hexc _ _ _ _ TH ⟨rfl, by assumption⟩
  · refine hret _ _ _ _ (by assumption) (by assumption) (Kept.of_frame hg' (by assumption)) ⟨isScan_mk hlt, rfl, by assumption⟩
end
noncomputable section
set_option maxRecDepth 100000
theorem IsScan.elimL {e : Ar} {x : Addr} {σ : Sc} {nx : Led} {C : Prop} {g hp : Heap} {L : Addr} (h : IsScan e x σ nx) (N : News g L hp nx) (k : ∀ (dx : Addr) (hh : Nat → Int) (kk : Nat → Tok), @LT.lt Nat _ dx x → News g L hp [(x, instObj 512 dx), (dx, dictOf [⟨hh 1, .str (Str.ofString "view") (kk 1), .ref e.v⟩, ⟨hh 2, .str (Str.ofString "table") (kk 2), .ref e.t⟩, ⟨hh 3, .str (Str.ofString "place") (kk 3), .int σ.place (kk 11)⟩, ⟨hh 4, .str (Str.ofString "depth") (kk 4), .int σ.depth (kk 12)⟩, ⟨hh 5, .str (Str.ofString "least") (kk 5), .int σ.least (kk 13)⟩, ⟨hh 6, .str (Str.ofString "good") (kk 6), .int σ.good (kk 14)⟩, ⟨hh 7, .str (Str.ofString "is_expression") (kk 7), .bool σ.isx⟩, ⟨hh 8, .str (Str.ofString "is_paired") (kk 8), .bool false⟩, ⟨hh 9, .str (Str.ofString "is_done") (kk 9), .bool σ.done⟩] 9)] → C) : C := by
  obtain ⟨dx, hh, kk, q1, hn⟩ := h
  subst hn
  exact k _ _ _ q1 N
theorem IsScan.elimA {e : Ar} {x : Addr} {σ : Sc} {nx news : Led} {C : Prop} {g hp : Heap} {L : Addr} (h : IsScan e x σ nx) (N : News g L hp (nx ++ news)) (k : ∀ (dx : Addr) (hh : Nat → Int) (kk : Nat → Tok), @LT.lt Nat _ dx x → News g L hp ((x, instObj 512 dx) :: (dx, dictOf [⟨hh 1, .str (Str.ofString "view") (kk 1), .ref e.v⟩, ⟨hh 2, .str (Str.ofString "table") (kk 2), .ref e.t⟩, ⟨hh 3, .str (Str.ofString "place") (kk 3), .int σ.place (kk 11)⟩, ⟨hh 4, .str (Str.ofString "depth") (kk 4), .int σ.depth (kk 12)⟩, ⟨hh 5, .str (Str.ofString "least") (kk 5), .int σ.least (kk 13)⟩, ⟨hh 6, .str (Str.ofString "good") (kk 6), .int σ.good (kk 14)⟩, ⟨hh 7, .str (Str.ofString "is_expression") (kk 7), .bool σ.isx⟩, ⟨hh 8, .str (Str.ofString "is_paired") (kk 8), .bool false⟩, ⟨hh 9, .str (Str.ofString "is_done") (kk 9), .bool σ.done⟩] 9) :: news) → C) : C := by
  obtain ⟨dx, hh, kk, q1, hn⟩ := h
  subst hn
  exact k _ _ _ q1 N
end
-- A7
noncomputable section
set_option maxRecDepth 100000

/-- what a sign's kind does to a scan -/
noncomputable def took (c : Int) (oc cc : Int) (σ : Sc) : Sc := if c = oc then { σ with depth := σ.depth + 1, done := decide (σ.depth + 1 = 0) } else if c = cc then { σ with depth := σ.depth - 1, done := decide (σ.depth - 1 = 0) } else σ

theorem kd_inj {c d : Int} (hc : Four c) (hd : Four d) : (kd c == kd d) = decide (c = d) := by
  unfold kd
  rcases hc with rfl | rfl | rfl | rfl <;> rcases hd with rfl | rfl | rfl | rfl <;> decide +kernel
set_option maxHeartbeats 4000000 in
theorem take_kind_does (w : World) (e : Ar) (x : Addr) (σ : Sc) (led : Led) (hl : IsScan e x σ led) (c oc cc : Int) (ta tb tc : Tok) (hc : Four c) (ho : oc = 40 ∧ cc = 41 ∨ oc = 41 ∧ cc = 40) :
    DoesR w 4 32 Any 544 [.ref x, .str (kd c) ta, .str (kd oc) tb, .str (kd cc) tc] led (fun r nx => IsScan e x (took c oc cc σ) nx ∧ r = .none ∧ ¬ (c = cc ∧ σ.depth - 1 < σ.least))
      (fun g => g = ⟨Str.ofString "Containing expression ends prematurely", σ.good, σ.place⟩ ∧ c = cc ∧ σ.depth - 1 < σ.least) := by
  (refine IsScan.elimE hl ?_; clear hl; intro dx hh kk hlt hnx; subst hnx)
  unfold DoesR
  intro mean mg mb dp un gd cn cs a ccd cl outer A₀ base h₀ L m s g₀ Q E B F X N T hk hP st dj hd hu hret hexc
  refine wpAny_call ?_
  k_dflt (refine' enter (binds := [(Str.ofString "scan", .ref x), (Str.ofString "kind", .str (kd c) ta), (Str.ofString "opens", .str (kd oc) tb), (Str.ofString "closes", .str (kd cc) tc)]) ?k1 ?k2 ?k3 ?k4 ?k5 ?kA ?kF ?kK ?k6 ?k7 ?k8 ?k9 ?kB ?_ ?c2 ?c3 ?c4 ?c5; (case kA => exact rfl); (case kF => exact rfl); (case kK => assumption); (case k1 => k_asm); (case k2 => k_asm); (case k3 => k_asm); (case k4 => k_asm); (case k5 => k_asm); (case k6 => k_is); (case k7 => k_is); (case k8 => ktr_room); (case k9 => first | exact BindsTo.of_eq rfl | exact binds_K (by k_in) rfl (by k_is) rfl rfl rfl); (case c5 => decide); (case kB => exact locs rfl); (case c2 => exact rfl); (case c3 => exact rfl); (case c4 => exact rfl); k_whole; intro g' L' h' tk0 FG' F' N' B' X' T' hg'; (try dsimp only); (try k_fold); (try (refine letA ?_; intro Ak)))
  clear hP st dj
  have hkd := kd_is hc (x := Str.ofString "$") (by decide)
  have ho1 : Four oc := by rcases ho with ⟨rfl, _⟩ | ⟨rfl, _⟩ <;> simp [Four]
  have ho2 : Four cc := by rcases ho with ⟨_, rfl⟩ | ⟨_, rfl⟩ <;> simp [Four]
  have hne : oc ≠ cc := by rcases ho with ⟨rfl, rfl⟩ | ⟨rfl, rfl⟩ <;> decide
  (repeat' (first | (k_unfold; (try dsimp only)) | (k_end; kc_close) | ((with_reducible show wpAny _ _ (execs (_ :: _) _) _ _ _); (with_reducible refine wpAny_execs_cons ?_); first | k_fold | (try dsimp only)) | (k_closed; first | ((with_reducible refine ite_pos ?_ ?_); (focus (k_dflt decide))) | ((with_reducible refine ite_neg ?_ ?_); (focus (k_dflt decide)))) | ((with_reducible show wpAny _ _ (call (.ref _) _) _ _ _); first | ((with_reducible show wpAny _ _ (call (.ref 502) _) _ _ _); (k_dflt (refine' DoesR.ledV (shallower_does _ _ _ ⟨_, _, _, _, _, _⟩ _ (isScan_mk ?hlt) _ _) ?uB ?uF ?uX ?uN ?usub ?uT ?uk ?uP ?ud ?uu ?_ ?_; walk_at "mine:l"; k_whole; rotate_left; walk_at "mine:x"; rotate_left; (focus (intro nxZ hZ tkZ FZ NZ hSZ hnZ; walk_at "mine:s"; (try k_sweep); (try dsimp only)))))) | ((with_reducible show wpAny _ _ (call (.ref 495) _) _ _ _); (k_dflt (refine' Does.ledV (deeper_does _ _ _ ⟨_, _, _, _, _, _⟩ _ (isScan_mk ?hlt)) ?uB ?uF ?uX ?uN ?usub ?uT ?uk ?uP ?ud ?uu ?_; walk_at "mine:l"; k_whole; intro nxZ hZ tkZ FZ NZ hSZ; walk_at "mine:s"; (try k_sweep); (try dsimp only))))) | ((with_reducible show wpAny _ _ (exec (.While _ _ _ _) _) _ _ _); refine halt ?_) | ((with_reducible show wpAny _ _ (exec (.For _ _ _ _ _) _) _ _ _); refine halt ?_) | ((with_reducible show wpAny _ _ (eval (.Name _ _) _) _ _ _); k_here; k_dflt (refine' ld ?k1 ?k2 ?_; (case k1 => k_asm); (case k2 => first | with_reducible assumption | exact rfl | assumption); k_whole)) | walk1 | (dsimp only; with_reducible show wpAny _ _ (call (.ref _) _) _ _ _) | (dsimp only; walk1) | (leave1; (try dsimp only))))
  all_goals (try (rename (kd c == kd oc) = true => hq1; rw [kd_inj hc ho1] at hq1; have hq1 := of_decide_eq_true hq1))
  all_goals (try (rename (kd c == kd oc) = false => hq1; rw [kd_inj hc ho1] at hq1; have hq1 := of_decide_eq_false hq1))
  all_goals (try (rename (kd c == kd cc) = true => hq2; rw [kd_inj hc ho2] at hq2; have hq2 := of_decide_eq_true hq2))
  all_goals (try (rename (kd c == kd cc) = false => hq2; rw [kd_inj hc ho2] at hq2; have hq2 := of_decide_eq_false hq2))
  · refine hret _ _ _ _ (by assumption) (by assumption) (Kept.of_frame hg' (by assumption)) ⟨?_, rfl, fun q => hne (hq1.symm.trans q.1)⟩
    unfold took
    rw [if_pos hq1]
    exact isScan_mk (by assumption)
  · refine hret _ _ _ _ (by assumption) (by assumption) (Kept.of_frame hg' (by assumption)) ⟨?_, rfl, fun q => by rename ¬ _ < _ => hx; exact hx q.2⟩
    unfold took
    rw [if_neg hq1, if_pos hq2]
    exact isScan_mk (by assumption)
  · rename _ ∧ _ => hX
    exact hexc _ _ _ _ (by assumption) ⟨hX.1, hq2, hX.2⟩
  · refine hret _ _ _ _ (by assumption) (by assumption) (Kept.of_frame hg' (by assumption)) ⟨?_, rfl, fun q => hq2 q.1⟩
    unfold took
    rw [if_neg hq1, if_neg hq2]
    exact isScan_mk (by assumption)
end
-- A8
noncomputable section
set_option maxRecDepth 100000

noncomputable def least0 (d : Int) : Int := if 0 < d then 0 else d
set_option maxHeartbeats 4000000 in
theorem scan_init {w : World} {A A₀ : Around} {base h₀ : Heap} {outer : List Env} {env : Env} {L : Addr} {m : Str → Option Value} {s : Shared} {mean : ExcName → Option Value} {mg mb : Str → Option Value} {R : Result → Shared → Prop} {x dx : Addr} {e : Ar} {at_ d : Int} {ta tb : Tok} {i : Bool}
    (B : Below A₀ base outer h₀) (F : Fr h₀ L s.heap m) (X : (K w.params).In h₀) (N : News h₀ L s.heap [(x, instObj 512 dx), (dx, dictOf [] 0)]) (T : Tp mean mg mb h₀) (hA : A.frames = some (env :: outer)) (hf : env.frame = some L) (hke : env.scope.kind = .function) (hroom : A.depth < recursionLimit) (hlt : @LT.lt Nat _ dx x)
    (k : ∀ h' tk' nx, Fr h₀ L h' m → News h₀ L h' nx → Kept s.heap [(x, instObj 512 dx), (dx, dictOf [] 0)] h' → IsScan e x ⟨at_, d, least0 d, at_, i, false⟩ nx → R (.ok (.ret .none)) { s with heap := h', toks := tk' }) :
    codeAny (model Pg w) A (.call (.ref 474) ⟨[.ref x, .ref e.v, .ref e.t, .int at_ ta, .int d tb, .bool i], []⟩) R s := by
  k_dflt (refine' enter (binds := [(Str.ofString "self", .ref x), (Str.ofString "view", .ref e.v), (Str.ofString "table", .ref e.t), (Str.ofString "place", .int at_ ta), (Str.ofString "depth", .int d tb), (Str.ofString "is_expression", .bool i)]) ?k1 ?k2 ?k3 ?k4 ?k5 ?kA ?kF ?kK ?k6 ?k7 ?k8 ?k9 ?kB ?_ ?c2 ?c3 ?c4 ?c5; (case kA => assumption); (case kF => assumption); (case kK => assumption); (case k1 => k_asm); (case k2 => k_asm); (case k3 => k_asm); (case k4 => k_asm); (case k5 => k_asm); (case k6 => k_is); (case k7 => k_is); (case k8 => ktr_room); (case k9 => first | exact BindsTo.of_eq rfl | exact binds_K (by k_in) rfl (by k_is) rfl rfl rfl); (case c5 => decide); (case kB => exact locs rfl); (case c2 => exact rfl); (case c3 => exact rfl); (case c4 => exact rfl); k_whole; intro g' L' h' tk0 FG' F' N' B' X' T' hg'; (try dsimp only); (try k_fold); (try (refine letA ?_; intro Ak)))
  (repeat' (first | (k_unfold; (try dsimp only)) | (k_end; kc_close) | ((with_reducible show wpAny _ _ (execs (_ :: _) _) _ _ _); (with_reducible refine wpAny_execs_cons ?_); (try dsimp only)) | (k_closed; first | ((with_reducible refine ite_pos ?_ ?_); (focus (k_dflt decide))) | ((with_reducible refine ite_neg ?_ ?_); (focus (k_dflt decide)))) | ((with_reducible show wpAny _ _ (exec (.While _ _ _ _) _) _ _ _); refine halt ?_) | ((with_reducible show wpAny _ _ (exec (.For _ _ _ _ _) _) _ _ _); refine halt ?_) | ((with_reducible show wpAny _ _ (eval (.Name _ _) _) _ _ _); k_here; k_dflt (refine' ld ?k1 ?k2 ?_; (case k1 => k_asm); (case k2 => first | with_reducible assumption | exact rfl | assumption); k_whole)) | walk1 | (dsimp only; walk1) | (leave1; (try dsimp only))))
  · exact k _ _ _ (by assumption) (by assumption) (Kept.of_frame hg' (by assumption)) (by unfold least0; rw [if_pos (by assumption)]; exact isScan_mk hlt)
  · exact k _ _ _ (by assumption) (by assumption) (Kept.of_frame hg' (by assumption)) (by unfold least0; rw [if_neg (by assumption)]; exact isScan_mk hlt)
theorem new_scan {w : World} {A A₀ : Around} {base h₀ : Heap} {outer : List Env} {env : Env} {L : Addr} {m : Str → Option Value} {s : Shared} {mean : ExcName → Option Value} {mg mb : Str → Option Value} {Q E : Value → Shared → Prop} {e : Ar} {at_ d : Int} {ta tb : Tok} {i : Bool} {news : Led}
    (B : Below A₀ base outer h₀) (F : Fr h₀ L s.heap m) (X : (K w.params).In h₀) (N : News h₀ L s.heap news) (T : Tp mean mg mb h₀) (hA : A.frames = some (env :: outer)) (hf : env.frame = some L) (hke : env.scope.kind = .function) (hroom : A.depth + 1 < recursionLimit)
    (k : ∀ x h' tk' nx, Fr h₀ L h' m → News h₀ L h' (nx ++ news) → IsScan e x ⟨at_, d, least0 d, at_, i, false⟩ nx → Q (.ref x) { s with heap := h', toks := tk' }) :
    wpAny (model Pg w) A (call (.ref 512) [.ref e.v, .ref e.t, .int at_ ta, .int d tb, .bool i]) Q E s := by
  refine call_cls F X N (by k_is) (by k_is) (by k_is) ?_
  intro x dx h' F' N' l1 l2
  have N2 : News h₀ L h' [(x, instObj 512 dx), (dx, dictOf [] 0)] := News.sub N' fun p hp => by
    rcases List.mem_cons.mp hp with rfl | hp
    · exact .head _
    · rcases List.mem_cons.mp hp with rfl | hp
      · exact .tail _ (.head _)
      · cases hp
  refine scan_init (s := { s with heap := h' }) B F' X N2 T hA hf hke (by first | ktr_room | (show A.depth + 1 < _; omega)) l2 fun h2 tk2 nx F2 Nx Kp hS => ?_
  refine ⟨rfl, k x h2 tk2 nx F2 (fun p hp => ?_) hS⟩
  rcases List.mem_append.mp hp with hp | hp
  · exact Nx p hp
  · have hN := N' p (.tail _ (.tail _ hp))
    have h1 := l1 p hp
    refine ⟨Kp _ _ hN.1 fun q hq z => ?_, hN.2⟩
    rcases List.mem_cons.mp hq with rfl | hq
    · have z' : x = p.1 := z
      rw [← z'] at h1
      exact Nat.lt_irrefl _ (Nat.lt_trans h1 l2)
    · rcases List.mem_cons.mp hq with rfl | hq
      · have z' : dx = p.1 := z
        rw [← z'] at h1
        exact Nat.lt_irrefl _ h1
      · cases hq

noncomputable def wendN (codes : List Int) : Nat → Int → Int
  | 0, p => p
  | k + 1, p => if cAt codes p = 97 then wendN codes k (p + 1) else p
noncomputable def wend (codes : List Int) (p : Int) : Int := wendN codes 100 p
theorem cAt_end (codes : List Int) : cAt codes (1 + codes.length) = -1 := by
  unfold cAt
  rw [if_neg (by omega)]
theorem inside_iff {codes : List Int} {p : Int} : Inside codes p ↔ 1 ≤ p ∧ p < 1 + codes.length := Iff.rfl

set_option maxHeartbeats 4000000 in
theorem word_end_does (w : World) (codes : List Int) (e : Ar) (x : Addr) (σ : Sc) (led : Led) (hl : IsScan e x σ led) (hc : Codes codes) (hp : 1 ≤ σ.place ∧ σ.place ≤ 1 + codes.length) :
    Does w 5 48 (IsAr w codes e) 530 [.ref x] led (fun r nx => IsScan e x { σ with place := wend codes σ.place } nx ∧ r = .none) := by
  have hc1 := hc.1
  (refine IsScan.elimE hl ?_; clear hl; intro dx hh kk hlt hnx; subst hnx)
  unfold Does
  intro mean mg mb dp un gd cn cs a ccd cl outer A₀ base h₀ L m s g₀ Q E B F X N T hk hP st dj hd hu hret
  refine wpAny_call ?_
  k_dflt (refine' enter (binds := [(Str.ofString "scan", .ref x)]) ?k1 ?k2 ?k3 ?k4 ?k5 ?kA ?kF ?kK ?k6 ?k7 ?k8 ?k9 ?kB ?_ ?c2 ?c3 ?c4 ?c5; (case kA => exact rfl); (case kF => exact rfl); (case kK => assumption); (case k1 => k_asm); (case k2 => k_asm); (case k3 => k_asm); (case k4 => k_asm); (case k5 => k_asm); (case k6 => k_is); (case k7 => k_is); (case k8 => ktr_room); (case k9 => first | exact BindsTo.of_eq rfl | exact binds_K (by k_in) rfl (by k_is) rfl rfl rfl); (case c5 => decide); (case kB => exact locs rfl); (case c2 => exact rfl); (case c3 => exact rfl); (case c4 => exact rfl); k_whole; intro g' L' h' tk0 FG' F' N' B' X' T' hg'; (try dsimp only); (try k_fold); (try (refine letA ?_; intro Ak)))
  have hA9 := isAr_mono _ _ _ _ _ (stays_of st dj hg') hP
  clear hP st dj
  have hV := hA9.1
  have hT := hA9.2
  clear hA9
  refine IsView.use hV ?_
  intro dv lc hv1 hv2 kv1 kv2 tv vs IV Ll iv
  (repeat' (first | (k_unfold; (try dsimp only)) | (k_end; kc_close) | ((with_reducible show wpAny _ _ (execs (_ :: _) _) _ _ _); (with_reducible refine wpAny_execs_cons ?_); first | k_fold | (try dsimp only)) | (k_closed; first | ((with_reducible refine ite_pos ?_ ?_); (focus (k_dflt decide))) | ((with_reducible refine ite_neg ?_ ?_); (focus (k_dflt decide)))) | ((with_reducible show wpAny _ _ (call (.ref _) _) _ _ _); first | ((with_reducible show wpAny _ _ (call (.ref 134) _) _ _ _); (k_dflt (refine' Does.pureV (is_word_part_does _ _ _ ?h1) ?uB ?uF ?uX ?uN ?uT ?uk ?uP ?ust ?ud ?uu ?_; walk_at "mine:p"; (case h1 => exact four_n9 (by assumption)); k_whole; intro hZ tkZ FZ NZ; (try k_sweep); (try dsimp only)))) | ((with_reducible show wpAny _ _ (call (.ref 127) _) _ _ _); (k_dflt (refine' Does.pureV (is_escape_does _ _ _ ?h1 ?h2) ?uB ?uF ?uX ?uN ?uT ?uk ?uP ?ust ?ud ?uu ?_; walk_at "mine:p"; (case h1 => exact four_n7 (by assumption)); (case h2 => exact four_n8 (by assumption)); k_whole; intro hZ tkZ FZ NZ; (try k_sweep); (try dsimp only)))) | ((with_reducible show wpAny _ _ (call (.ref 120) _) _ _ _); (k_dflt (refine' Does.pureV (has_does _ _ _ _ _ ?hf) ?uB ?uF ?uX ?uN ?uT ?uk ?uP ?ust ?ud ?uu ?_; walk_at "mine:p"; (case hf => decide +kernel); k_whole; intro hZ tkZ FZ NZ; (try k_sweep); (try dsimp only)))) | ((with_reducible show wpAny _ _ (call (.ref 271) _) _ _ _); (k_dflt (refine' Does.pureS (syntax_at_does _ _ _ _ _ ?hp ?hc) ?ucc ?uB ?uF ?uX ?uN ?uT ?uk ?uV ?uW ?ust ?ud ?uu ?_ ?_; (case ucc => assumption); (case uV => assumption); (case uW => assumption); (case uB => k_asm); (case uF => k_asm); (case uX => k_asm); (case uN => k_asm); (case uT => k_asm); (case uk => exact rfl); (case ust => exact Fr.keep (by k_asm)); (case ud => ktr_room); (case uu => ktr_units); (case hp => (have := (by assumption : Codes _).1; omega)); (case hc => assumption); k_whole; (focus (intro hZ tkZ FZ NZ hiZ hfZ SZ; (have q1Z := four_ne1 hfZ); (have q2Z := four_ne2 hfZ); (have q3Z := four_ne3 hfZ); (have q4Z := four_ne4 hfZ); (have q5Z := four_ne5 hfZ); (have q6Z := four_ne6 hfZ); refine IsSyn.use SZ ?_; intro dZ e1Z e2Z e3Z e4Z e5Z e6Z e7Z e8Z e9Z IZ; (try k_sweep); (try dsimp only))); rotate_left; (focus (intro hZ tkZ FZ NZ hiZ; first | (exfalso; refine hiZ ?_; unfold Inside; omega) | ((try k_sweep); (try dsimp only)))); rotate_left))) | ((with_reducible show wpAny _ _ (call (.ref 285) _) _ _ _); (k_dflt (refine' Does.pureV (begin_mark_does _ _ _ _ _ ?hp ?hc) ?uB ?uF ?uX ?uN ?uT ?uk ?uP ?ust ?ud ?uu ?_; walk_at "mine:p"; (case hp => (have := (by assumption : Codes _).1; omega)); (case hc => assumption); k_whole; intro hZ tkZ FZ NZ; (try k_sweep); (try dsimp only)))) | ((with_reducible show wpAny _ _ (call (.ref 629) _) _ _ _); (k_dflt (refine' Does.pureI (end_does _ _ _ ?hl) ?uB ?uF ?uX ?uN ?uT ?uk ?uP ?ust ?ud ?uu ?_; walk_at "mine:p"; (case hl => (have := (by assumption : Codes _).1; omega)); k_whole; intro tZ hZ tkZ FZ NZ; (try k_sweep); (try dsimp only))))) | ((with_reducible show wpAny _ _ (exec (.While _ _ _ _) _) _ _ _); refine halt ?_) | ((with_reducible show wpAny _ _ (exec (.For _ _ _ _ _) _) _ _ _); refine halt ?_) | ((with_reducible show wpAny _ _ (eval (.Name _ _) _) _ _ _); k_here; k_dflt (refine' ld ?k1 ?k2 ?_; (case k1 => k_asm); (case k2 => first | with_reducible assumption | exact rfl | assumption); k_whole)) | walk1 | (dsimp only; with_reducible show wpAny _ _ (call (.ref _) _) _ _ _) | (dsimp only; walk1) | (leave1; (try dsimp only))))
  refine unhalt ?_
  refine While_inv2 (fun n m₁ news₁ => m₁ (Str.ofString "scan") = some (.ref x) ∧ m₁ (Str.ofString "view") = some (.ref e.v) ∧ m₁ (Str.ofString "table") = some (.ref e.t) ∧
      ∃ p : Int, 1 ≤ p ∧ p ≤ 1 + codes.length ∧ wendN codes n p = wend codes σ.place ∧ 1 + (codes.length : Int) - p < n ∧ IsScan e x { σ with place := p } news₁) (n₀ := 100) (by assumption) (News.sub (by assumption) (led := [(x, _), (dx, _)]) (by (first | (refine sub1 ?_; k_mem) | (refine sub2 ?_ ?_; k_mem; k_mem) | (refine sub3 ?_ ?_ ?_; k_mem; k_mem; k_mem) | ((repeat (refine' List.forall_mem_cons.mpr ⟨?_, ?_⟩; focus k_mem)); exact List.forall_mem_nil _)))) ⟨by rfl, by rfl, by rfl, σ.place, hp.1, hp.2, rfl, by omega, isScan_mk hlt⟩ ?_
  intro n m₁ news₁ h₁ tk₁ F₁ N₁ hI9
  (try k_fold)
  (refine cps ?_; intro G9 out9)
  obtain ⟨a1, a2, a3, p, b1, b2, b3, b4, b5⟩ := hI9
  (refine out9 ?_; clear out9 G9)
  obtain ⟨k, rfl⟩ : ∃ k, n = k + 1 := ⟨n - 1, by omega⟩
  clear hlt
  (refine IsScan.elimL b5 N₁ ?_; clear b5 N₁; intro dx hh kk hlt N₁)
  (repeat' (first | (k_unfold; (try dsimp only)) | (k_end; kc_close) | ((with_reducible show wpAny _ _ (execs (_ :: _) _) _ _ _); (with_reducible refine wpAny_execs_cons ?_); first | k_fold | (try dsimp only)) | (k_closed; first | ((with_reducible refine ite_pos ?_ ?_); (focus (k_dflt decide))) | ((with_reducible refine ite_neg ?_ ?_); (focus (k_dflt decide)))) | ((with_reducible show wpAny _ _ (call (.ref _) _) _ _ _); first | ((with_reducible show wpAny _ _ (call (.ref 134) _) _ _ _); (k_dflt (refine' Does.pureV (is_word_part_does _ _ _ ?h1) ?uB ?uF ?uX ?uN ?uT ?uk ?uP ?ust ?ud ?uu ?_; walk_at "mine:p"; (case h1 => exact four_n9 (by assumption)); k_whole; intro hZ tkZ FZ NZ; (try k_sweep); (try dsimp only)))) | ((with_reducible show wpAny _ _ (call (.ref 127) _) _ _ _); (k_dflt (refine' Does.pureV (is_escape_does _ _ _ ?h1 ?h2) ?uB ?uF ?uX ?uN ?uT ?uk ?uP ?ust ?ud ?uu ?_; walk_at "mine:p"; (case h1 => exact four_n7 (by assumption)); (case h2 => exact four_n8 (by assumption)); k_whole; intro hZ tkZ FZ NZ; (try k_sweep); (try dsimp only)))) | ((with_reducible show wpAny _ _ (call (.ref 120) _) _ _ _); (k_dflt (refine' Does.pureV (has_does _ _ _ _ _ ?hf) ?uB ?uF ?uX ?uN ?uT ?uk ?uP ?ust ?ud ?uu ?_; walk_at "mine:p"; (case hf => decide +kernel); k_whole; intro hZ tkZ FZ NZ; (try k_sweep); (try dsimp only)))) | ((with_reducible show wpAny _ _ (call (.ref 271) _) _ _ _); (k_dflt (refine' Does.pureS (syntax_at_does _ _ _ _ _ ?hp ?hc) ?ucc ?uB ?uF ?uX ?uN ?uT ?uk ?uV ?uW ?ust ?ud ?uu ?_ ?_; (case ucc => assumption); (case uV => assumption); (case uW => assumption); (case uB => k_asm); (case uF => k_asm); (case uX => k_asm); (case uN => k_asm); (case uT => k_asm); (case uk => exact rfl); (case ust => exact Fr.keep (by k_asm)); (case ud => ktr_room); (case uu => ktr_units); (case hp => (have := (by assumption : Codes _).1; omega)); (case hc => assumption); k_whole; (focus (intro hZ tkZ FZ NZ hiZ hfZ SZ; (have q1Z := four_ne1 hfZ); (have q2Z := four_ne2 hfZ); (have q3Z := four_ne3 hfZ); (have q4Z := four_ne4 hfZ); (have q5Z := four_ne5 hfZ); (have q6Z := four_ne6 hfZ); refine IsSyn.use SZ ?_; intro dZ e1Z e2Z e3Z e4Z e5Z e6Z e7Z e8Z e9Z IZ; (try k_sweep); (try dsimp only))); rotate_left; (focus (intro hZ tkZ FZ NZ hiZ; first | (exfalso; refine hiZ ?_; unfold Inside; omega) | ((try k_sweep); (try dsimp only)))); rotate_left))) | ((with_reducible show wpAny _ _ (call (.ref 285) _) _ _ _); (k_dflt (refine' Does.pureV (begin_mark_does _ _ _ _ _ ?hp ?hc) ?uB ?uF ?uX ?uN ?uT ?uk ?uP ?ust ?ud ?uu ?_; walk_at "mine:p"; (case hp => (have := (by assumption : Codes _).1; omega)); (case hc => assumption); k_whole; intro hZ tkZ FZ NZ; (try k_sweep); (try dsimp only)))) | ((with_reducible show wpAny _ _ (call (.ref 629) _) _ _ _); (k_dflt (refine' Does.pureI (end_does _ _ _ ?hl) ?uB ?uF ?uX ?uN ?uT ?uk ?uP ?ust ?ud ?uu ?_; walk_at "mine:p"; (case hl => (have := (by assumption : Codes _).1; omega)); k_whole; intro tZ hZ tkZ FZ NZ; (try k_sweep); (try dsimp only))))) | ((with_reducible show wpAny _ _ (exec (.While _ _ _ _) _) _ _ _); refine halt ?_) | ((with_reducible show wpAny _ _ (exec (.For _ _ _ _ _) _) _ _ _); refine halt ?_) | ((with_reducible show wpAny _ _ (eval (.Name _ _) _) _ _ _); k_here; k_dflt (refine' ld ?k1 ?k2 ?_; (case k1 => k_asm); (case k2 => first | with_reducible assumption | exact rfl | assumption); k_whole)) | walk1 | (dsimp only; with_reducible show wpAny _ _ (call (.ref _) _) _ _ _) | (dsimp only; walk1) | (leave1; (try dsimp only))))
  · have hw := (kd_w (by assumption)).mp (by assumption : kd (cAt codes p) = Str.ofString "w")
    rw [wendN, if_pos hw] at b3
    (dsimp only [WhileStep2]; refine' ⟨_, _, _, _, k, rfl, ?wF, ?wN, ?wlt, ?_⟩; (case wF => assumption); (case wN => assumption); (case wlt => omega))
    exact ⟨a1, a2, a3, p + 1, by omega, by omega, b3, by omega, isScan_mk (by assumption)⟩
  · have hw := fun q => (by assumption : ¬ kd (cAt codes p) = Str.ofString "w") ((kd_w (by assumption)).mpr q)
    rw [wendN, if_neg hw] at b3
    rw [← b3] at hret
    exact hret _ _ _ _ (by assumption) (by assumption) (Kept.of_frame hg' (by assumption)) ⟨isScan_mk (by assumption), rfl⟩
  · have hpe : p = 1 + codes.length := by omega
    rw [wendN, hpe, cAt_end, if_neg (by decide)] at b3
    rw [← b3, ← hpe] at hret
    exact hret _ _ _ _ (by assumption) (by assumption) (Kept.of_frame hg' (by assumption)) ⟨isScan_mk (by assumption), rfl⟩
end
-- A9
noncomputable section
set_option maxRecDepth 100000

theorem kd40 : kd 40 = Str.ofString "(" := by unfold kd; rfl
theorem kd41 : kd 41 = Str.ofString ")" := by unfold kd; rfl
theorem take_kind_fwd (w : World) (e : Ar) (x : Addr) (σ : Sc) (led : Led) (hl : IsScan e x σ led) (c : Int) (ta tb tc : Tok) (hc : Four c) :
    DoesR w 4 32 Any 544 [.ref x, .str (kd c) ta, .str (Str.ofString "(") tb, .str (Str.ofString ")") tc] led (fun r nx => IsScan e x (took c 40 41 σ) nx ∧ r = .none ∧ ¬ (c = 41 ∧ σ.depth - 1 < σ.least))
      (fun g => g = ⟨Str.ofString "Containing expression ends prematurely", σ.good, σ.place⟩ ∧ c = 41 ∧ σ.depth - 1 < σ.least) := by
  have h := take_kind_does w e x σ led hl c 40 41 ta tb tc hc (.inl ⟨rfl, rfl⟩)
  rwa [kd40, kd41] at h
theorem take_kind_bwd (w : World) (e : Ar) (x : Addr) (σ : Sc) (led : Led) (hl : IsScan e x σ led) (c : Int) (ta tb tc : Tok) (hc : Four c) :
    DoesR w 4 32 Any 544 [.ref x, .str (kd c) ta, .str (Str.ofString ")") tb, .str (Str.ofString "(") tc] led (fun r nx => IsScan e x (took c 41 40 σ) nx ∧ r = .none ∧ ¬ (c = 40 ∧ σ.depth - 1 < σ.least))
      (fun g => g = ⟨Str.ofString "Containing expression ends prematurely", σ.good, σ.place⟩ ∧ c = 40 ∧ σ.depth - 1 < σ.least) := by
  have h := take_kind_does w e x σ led hl c 41 40 ta tb tc hc (.inr ⟨rfl, rfl⟩)
  rwa [kd40, kd41] at h
/-- one step of a scan forward -/
noncomputable def stepF (codes : List Int) (σ : Sc) : Sc :=
  if cAt codes σ.place = 97 then (if (σ.isx && decide (σ.depth = 0)) = true then { σ with place := wend codes σ.place, done := true } else { σ with place := σ.place + 1 })
  else took (cAt codes σ.place) 40 41 { σ with place := σ.place + 1 }
@[reducible] def Fails (codes : List Int) (σ : Sc) : Prop := cAt codes σ.place = 41 ∧ σ.depth - 1 < σ.least


set_option maxHeartbeats 4000000 in
theorem step_forward_does (w : World) (codes : List Int) (e : Ar) (x : Addr) (σ : Sc) (led : Led) (hl : IsScan e x σ led) (hc : Codes codes) (hp : 1 ≤ σ.place ∧ σ.place < 1 + codes.length) :
    DoesR w 7 72 (IsAr w codes e) 537 [.ref x] led (fun r nx => IsScan e x (stepF codes σ) nx ∧ r = .none ∧ ¬ Fails codes σ)
      (fun g => g = ⟨Str.ofString "Containing expression ends prematurely", σ.good, σ.place + 1⟩ ∧ Fails codes σ) := by
  have hc1 := hc.1
  (refine IsScan.elimE hl ?_; clear hl; intro dx hh kk hlt hnx; subst hnx)
  unfold DoesR
  intro mean mg mb dp un gd cn cs a ccd cl outer A₀ base h₀ L m s g₀ Q E B F X N T hk hP st dj hd hu hret hexc
  refine wpAny_call ?_
  k_dflt (refine' enter (binds := [(Str.ofString "scan", .ref x)]) ?k1 ?k2 ?k3 ?k4 ?k5 ?kA ?kF ?kK ?k6 ?k7 ?k8 ?k9 ?kB ?_ ?c2 ?c3 ?c4 ?c5; (case kA => exact rfl); (case kF => exact rfl); (case kK => assumption); (case k1 => k_asm); (case k2 => k_asm); (case k3 => k_asm); (case k4 => k_asm); (case k5 => k_asm); (case k6 => k_is); (case k7 => k_is); (case k8 => ktr_room); (case k9 => first | exact BindsTo.of_eq rfl | exact binds_K (by k_in) rfl (by k_is) rfl rfl rfl); (case c5 => decide); (case kB => exact locs rfl); (case c2 => exact rfl); (case c3 => exact rfl); (case c4 => exact rfl); k_whole; intro g' L' h' tk0 FG' F' N' B' X' T' hg'; (try dsimp only); (try k_fold); (try (refine letA ?_; intro Ak)))
  have hA9 := isAr_mono _ _ _ _ _ (stays_of st dj hg') hP
  clear hP st dj
  have hV := hA9.1
  have hT := hA9.2
  clear hA9
  refine IsView.use hV ?_
  intro dv lc hv1 hv2 kv1 kv2 tv vs IV Ll iv
  (repeat' (first | (k_unfold; (try dsimp only)) | (k_end; kc_close) | ((with_reducible show wpAny _ _ (execs (_ :: _) _) _ _ _); (with_reducible refine wpAny_execs_cons ?_); first | k_fold | (try dsimp only)) | (k_closed; first | ((with_reducible refine ite_pos ?_ ?_); (focus (k_dflt decide))) | ((with_reducible refine ite_neg ?_ ?_); (focus (k_dflt decide)))) | ((with_reducible show wpAny _ _ (call (.ref _) _) _ _ _); first | ((with_reducible show wpAny _ _ (call (.ref 544) _) _ _ _); (k_dflt (refine' DoesR.ledV (take_kind_fwd _ _ _ ⟨_, _, _, _, _, _⟩ _ (isScan_mk ?hlt) _ _ _ _ ?hc) ?uB ?uF ?uX ?uN ?usub ?uT ?uk ?uP ?ud ?uu ?_ ?_; walk_at "mine:l"; (case hc => assumption); k_whole; rotate_left; walk_at "mine:x"; rotate_left; (focus (intro nxZ hZ tkZ FZ NZ hSZ hnZ; (try k_sweep); (try dsimp only)))))) | ((with_reducible show wpAny _ _ (call (.ref 530) _) _ _ _); (k_dflt (refine' Does.ledV (word_end_does _ _ _ _ ⟨_, _, _, _, _, _⟩ _ (isScan_mk ?hlt) ?hc ?hp) ?uB ?uF ?uX ?uN ?usub ?uT ?uk ?uP ?ud ?uu ?_; walk_at "mine:l"; (case hc => assumption); (case hp => ((try dsimp only); omega)); k_whole; intro nxZ hZ tkZ FZ NZ hSZ; walk_at "mine:s"; (try k_sweep); (try dsimp only)))) | ((with_reducible show wpAny _ _ (call (.ref 481) _) _ _ _); (k_dflt (refine' Does.ledV (counts_does _ _ _ ⟨_, _, _, _, _, _⟩ _ (isScan_mk ?hlt)) ?uB ?uF ?uX ?uN ?usub ?uT ?uk ?uP ?ud ?uu ?_; walk_at "mine:l"; k_whole; intro nxZ hZ tkZ FZ NZ hSZ; walk_at "mine:s"; (try k_sweep); (try dsimp only)))) | ((with_reducible show wpAny _ _ (call (.ref 134) _) _ _ _); (k_dflt (refine' Does.pureV (is_word_part_does _ _ _ ?h1) ?uB ?uF ?uX ?uN ?uT ?uk ?uP ?ust ?ud ?uu ?_; walk_at "mine:p"; (case h1 => exact four_n9 (by assumption)); k_whole; intro hZ tkZ FZ NZ; (try k_sweep); (try dsimp only)))) | ((with_reducible show wpAny _ _ (call (.ref 127) _) _ _ _); (k_dflt (refine' Does.pureV (is_escape_does _ _ _ ?h1 ?h2) ?uB ?uF ?uX ?uN ?uT ?uk ?uP ?ust ?ud ?uu ?_; walk_at "mine:p"; (case h1 => exact four_n7 (by assumption)); (case h2 => exact four_n8 (by assumption)); k_whole; intro hZ tkZ FZ NZ; (try k_sweep); (try dsimp only)))) | ((with_reducible show wpAny _ _ (call (.ref 120) _) _ _ _); (k_dflt (refine' Does.pureV (has_does _ _ _ _ _ ?hf) ?uB ?uF ?uX ?uN ?uT ?uk ?uP ?ust ?ud ?uu ?_; walk_at "mine:p"; (case hf => decide +kernel); k_whole; intro hZ tkZ FZ NZ; (try k_sweep); (try dsimp only)))) | ((with_reducible show wpAny _ _ (call (.ref 271) _) _ _ _); (k_dflt (refine' Does.pureS (syntax_at_does _ _ _ _ _ ?hp ?hc) ?ucc ?uB ?uF ?uX ?uN ?uT ?uk ?uV ?uW ?ust ?ud ?uu ?_ ?_; (case ucc => assumption); (case uV => assumption); (case uW => assumption); (case uB => k_asm); (case uF => k_asm); (case uX => k_asm); (case uN => k_asm); (case uT => k_asm); (case uk => exact rfl); (case ust => exact Fr.keep (by k_asm)); (case ud => ktr_room); (case uu => ktr_units); (case hp => (have := (by assumption : Codes _).1; omega)); (case hc => assumption); k_whole; (focus (intro hZ tkZ FZ NZ hiZ hfZ SZ; (have q1Z := four_ne1 hfZ); (have q2Z := four_ne2 hfZ); (have q3Z := four_ne3 hfZ); (have q4Z := four_ne4 hfZ); (have q5Z := four_ne5 hfZ); (have q6Z := four_ne6 hfZ); refine IsSyn.use SZ ?_; intro dZ e1Z e2Z e3Z e4Z e5Z e6Z e7Z e8Z e9Z IZ; (try k_sweep); (try dsimp only))); rotate_left; (focus (intro hZ tkZ FZ NZ hiZ; first | (exfalso; refine hiZ ?_; unfold Inside; omega) | ((try k_sweep); (try dsimp only)))); rotate_left))) | ((with_reducible show wpAny _ _ (call (.ref 285) _) _ _ _); (k_dflt (refine' Does.pureV (begin_mark_does _ _ _ _ _ ?hp ?hc) ?uB ?uF ?uX ?uN ?uT ?uk ?uP ?ust ?ud ?uu ?_; walk_at "mine:p"; (case hp => (have := (by assumption : Codes _).1; omega)); (case hc => assumption); k_whole; intro hZ tkZ FZ NZ; (try k_sweep); (try dsimp only)))) | ((with_reducible show wpAny _ _ (call (.ref 629) _) _ _ _); (k_dflt (refine' Does.pureI (end_does _ _ _ ?hl) ?uB ?uF ?uX ?uN ?uT ?uk ?uP ?ust ?ud ?uu ?_; walk_at "mine:p"; (case hl => (have := (by assumption : Codes _).1; omega)); k_whole; intro tZ hZ tkZ FZ NZ; (try k_sweep); (try dsimp only))))) | ((with_reducible show wpAny _ _ (exec (.While _ _ _ _) _) _ _ _); refine halt ?_) | ((with_reducible show wpAny _ _ (exec (.For _ _ _ _ _) _) _ _ _); refine halt ?_) | ((with_reducible show wpAny _ _ (eval (.Name _ _) _) _ _ _); k_here; k_dflt (refine' ld ?k1 ?k2 ?_; (case k1 => k_asm); (case k2 => first | with_reducible assumption | exact rfl | assumption); k_whole)) | walk1 | (dsimp only; with_reducible show wpAny _ _ (call (.ref _) _) _ _ _) | (dsimp only; walk1) | (leave1; (try dsimp only))))
  · have hw := (kd_w (by assumption)).mp (by assumption : kd (cAt codes σ.place) = Str.ofString "w")
    refine hret _ _ _ _ (by assumption) (by assumption) (Kept.of_frame hg' (by assumption)) ⟨?_, rfl, fun q => absurd (hw.symm.trans q.1) (by decide)⟩
    unfold stepF
    rw [if_pos hw, if_pos (by assumption)]
    exact isScan_mk (by assumption)
  · have hw := (kd_w (by assumption)).mp (by assumption : kd (cAt codes σ.place) = Str.ofString "w")
    refine hret _ _ _ _ (by assumption) (by assumption) (Kept.of_frame hg' (by assumption)) ⟨?_, rfl, fun q => absurd (hw.symm.trans q.1) (by decide)⟩
    unfold stepF
    rw [if_pos hw, if_neg (by rw [(by assumption : (σ.isx && decide (σ.depth = 0)) = false)]; decide)]
    exact isScan_mk (by assumption)
  · have hw := fun q => (by assumption : ¬ kd (cAt codes σ.place) = Str.ofString "w") ((kd_w (by assumption)).mpr q)
    refine hret _ _ _ _ (by assumption) (by assumption) (Kept.of_frame hg' (by assumption)) ⟨?_, rfl, by assumption⟩
    unfold stepF
    rw [if_neg hw]
    assumption
  · exact hexc _ _ _ _ (by assumption) (by assumption)
end
-- B1
noncomputable section
set_option maxRecDepth 100000

/-- where a scan leads -/
inductive Res where
  | at_ (p : Int)
  | none
  | soon (good e : Int)
  | unbal (good p : Int)
/-- the place is good where the depth is the least -/
noncomputable def mark (σ : Sc) : Sc := if σ.depth = σ.least then { σ with good := σ.place } else σ
noncomputable def runF (codes : List Int) : Nat → Sc → Res
  | 0, _ => .none
  | k + 1, σ =>
    if σ.place < 1 + (codes.length : Int) then
      if Fails codes (mark σ) then .soon (mark σ).good ((mark σ).place + 1)
      else if (stepF codes (mark σ)).done = true then .at_ (stepF codes (mark σ)).place else runF codes k (stepF codes (mark σ))
    else if σ.depth = 0 then .none else .unbal σ.good σ.place
noncomputable def fwd (codes : List Int) (at_ d : Int) (i : Bool) : Res := runF codes 200 ⟨at_, d, least0 d, at_, i, false⟩
noncomputable def TellsR : Res → Value → Prop
  | .at_ p, r => IsI r p
  | .none, r => r = .none
  | _, _ => False
noncomputable def TellsX : Res → Sig → Prop
  | .soon a b, g => g = ⟨Str.ofString "Containing expression ends prematurely", a, b⟩
  | .unbal a b, g => g = ⟨Str.ofString "Unbalanced parentheses", a, b⟩
  | _, _ => False
theorem step_place {codes : List Int} {σ : Sc} (hd : (stepF codes σ).done = false) : (stepF codes σ).place = σ.place + 1 := by
  unfold stepF at *
  split
  · rename_i h
    rw [if_pos h] at hd
    split
    · rename_i h2
      rw [if_pos h2] at hd
      cases hd
    · rfl
  · unfold took
    split
    · rfl
    · split <;> rfl
theorem mark_place (σ : Sc) : (mark σ).place = σ.place := by unfold mark; split <;> rfl
theorem run_soon {codes : List Int} {k : Nat} {σ σ1 : Sc} (h : σ.place < 1 + (codes.length : Int)) (hm : mark σ = σ1) (hf : Fails codes σ1) : runF codes (k + 1) σ = .soon σ1.good (σ1.place + 1) := by
  subst hm; unfold runF; rw [if_pos h, if_pos hf]
theorem run_at {codes : List Int} {k : Nat} {σ σ1 : Sc} (h : σ.place < 1 + (codes.length : Int)) (hm : mark σ = σ1) (hf : ¬ Fails codes σ1) (hd : (stepF codes σ1).done = true) : runF codes (k + 1) σ = .at_ (stepF codes σ1).place := by
  subst hm; unfold runF; rw [if_pos h, if_neg hf, if_pos hd]
theorem run_next {codes : List Int} {k : Nat} {σ σ1 : Sc} (h : σ.place < 1 + (codes.length : Int)) (hm : mark σ = σ1) (hf : ¬ Fails codes σ1) (hd : (stepF codes σ1).done = false) : runF codes (k + 1) σ = runF codes k (stepF codes σ1) := by
  subst hm; rw [runF, if_pos h, if_neg hf, if_neg (by rw [hd]; decide)]
theorem run_none {codes : List Int} {k : Nat} {σ : Sc} (h : ¬ σ.place < 1 + (codes.length : Int)) (hd : σ.depth = 0) : runF codes (k + 1) σ = .none := by
  unfold runF; rw [if_neg h, if_pos hd]
theorem run_unbal {codes : List Int} {k : Nat} {σ : Sc} (h : ¬ σ.place < 1 + (codes.length : Int)) (hd : σ.depth ≠ 0) : runF codes (k + 1) σ = .unbal σ.good σ.place := by
  unfold runF; rw [if_neg h, if_neg hd]
theorem mark_yes {σ : Sc} (h : σ.depth = σ.least) : mark σ = ⟨σ.place, σ.depth, σ.least, σ.place, σ.isx, σ.done⟩ := by unfold mark; rw [if_pos h]
theorem mark_no {σ : Sc} (h : σ.depth ≠ σ.least) : mark σ = ⟨σ.place, σ.depth, σ.least, σ.good, σ.isx, σ.done⟩ := by unfold mark; rw [if_neg h]

set_option maxHeartbeats 4000000 in
theorem forward_one_does (w : World) (codes : List Int) (e : Ar) (at_ d : Int) (ta tb : Tok) (i : Bool) (hc : Codes codes) (hp : 1 ≤ at_ ∧ at_ ≤ 1 + codes.length) :
    DoesR w 9 96 (IsAr w codes e) 551 [.ref e.v, .ref e.t, .int at_ ta, .int d tb, .bool i] [] (fun r nx => nx = [] ∧ TellsR (fwd codes at_ d i) r) (TellsX (fwd codes at_ d i)) := by
  have hc1 := hc.1
  unfold DoesR
  intro mean mg mb dp un gd cn cs a ccd cl outer A₀ base h₀ L m s g₀ Q E B F X N T hk hP st dj hd hu hret hexc
  refine wpAny_call ?_
  k_dflt (refine' enter (binds := [(Str.ofString "view", .ref e.v), (Str.ofString "table", .ref e.t), (Str.ofString "at", .int at_ ta), (Str.ofString "depth", .int d tb), (Str.ofString "is_expression", .bool i)]) ?k1 ?k2 ?k3 ?k4 ?k5 ?kA ?kF ?kK ?k6 ?k7 ?k8 ?k9 ?kB ?_ ?c2 ?c3 ?c4 ?c5; (case kA => exact rfl); (case kF => exact rfl); (case kK => assumption); (case k1 => k_asm); (case k2 => k_asm); (case k3 => k_asm); (case k4 => k_asm); (case k5 => k_asm); (case k6 => k_is); (case k7 => k_is); (case k8 => ktr_room); (case k9 => first | exact BindsTo.of_eq rfl | exact binds_K (by k_in) rfl (by k_is) rfl rfl rfl); (case c5 => decide); (case kB => exact locs rfl); (case c2 => exact rfl); (case c3 => exact rfl); (case c4 => exact rfl); k_whole; intro g' L' h' tk0 FG' F' N' B' X' T' hg'; (try dsimp only); (try k_fold); (try (refine letA ?_; intro Ak)))
  have hA9 := isAr_mono _ _ _ _ _ (stays_of st dj hg') hP
  clear hP st dj
  have hV := hA9.1
  have hT := hA9.2
  clear hA9
  refine IsView.use hV ?_
  intro dv lc hv1 hv2 kv1 kv2 tv vs IV Ll iv
  (repeat' (first | (k_unfold; (try dsimp only)) | (k_end; kc_close) | ((with_reducible show wpAny _ _ (execs (_ :: _) _) _ _ _); (with_reducible refine wpAny_execs_cons ?_); first | k_fold | (try dsimp only)) | (k_closed; first | ((with_reducible refine ite_pos ?_ ?_); (focus (k_dflt decide))) | ((with_reducible refine ite_neg ?_ ?_); (focus (k_dflt decide)))) | ((with_reducible show wpAny _ _ (call (.ref _) _) _ _ _); first | ((with_reducible show wpAny _ _ (call (.ref 488) _) _ _ _); (k_dflt (refine' DoesR.ledF (lost_does _ _ _ ⟨_, _, _, _, _, _⟩ _ (isScan_mk ?hlt)) ?uB ?uF ?uX ?uN ?usub ?uT ?uk ?uP ?ud ?uu ?_; walk_at "mine:l"; k_whole; walk_at "mine:x"))) | ((with_reducible show wpAny _ _ (call (.ref 537) _) _ _ _); (k_dflt (refine' DoesR.ledV (step_forward_does _ _ _ _ ⟨_, _, _, _, _, _⟩ _ (isScan_mk ?hlt) ?hc ?hp) ?uB ?uF ?uX ?uN ?usub ?uT ?uk ?uP ?ud ?uu ?_ ?_; walk_at "mine:l"; (case hc => assumption); (case hp => ((try dsimp only); omega)); k_whole; rotate_left; walk_at "mine:x"; rotate_left; (focus (intro nxZ hZ tkZ FZ NZ hSZ hnZ; walk_at "mine:s"; (try k_sweep); (try dsimp only)))))) | ((with_reducible show wpAny _ _ (call (.ref 629) _) _ _ _); (k_dflt (refine' Does.pureI (end_does _ _ _ ?hl) ?uB ?uF ?uX ?uN ?uT ?uk ?uP ?ust ?ud ?uu ?_; walk_at "mine:p"; (case hl => (have := (by assumption : Codes _).1; omega)); k_whole; intro tZ hZ tkZ FZ NZ; (try k_sweep); (try dsimp only)))) | ((with_reducible show wpAny _ _ (call (.ref 512) _) _ _ _); (k_dflt (refine' new_scan ?uB ?uF ?uX ?uN ?uT ?u1 ?u2 ?u3 ?ud ?_; walk_at "mine:c"; (refine IsScan.elimA hSZ NZ ?_; clear hSZ NZ; intro dxZ hhZ kkZ hltZ NZ); (try dsimp only at NZ); (try k_sweep); (try dsimp only))))) | ((with_reducible show wpAny _ _ (exec (.While _ _ _ _) _) _ _ _); refine halt ?_) | ((with_reducible show wpAny _ _ (exec (.For _ _ _ _ _) _) _ _ _); refine halt ?_) | ((with_reducible show wpAny _ _ (eval (.Name _ _) _) _ _ _); k_here; k_dflt (refine' ld ?k1 ?k2 ?_; (case k1 => k_asm); (case k2 => first | with_reducible assumption | exact rfl | assumption); k_whole)) | walk1 | (dsimp only; with_reducible show wpAny _ _ (call (.ref _) _) _ _ _) | (dsimp only; walk1) | (leave1; (try dsimp only))))
  refine unhalt ?_
  refine While_inv2 (fun n m₁ news₁ => m₁ (Str.ofString "view") = some (.ref e.v) ∧
      ∃ (x : Addr) (σ : Sc), m₁ (Str.ofString "scan") = some (.ref x) ∧ 1 ≤ σ.place ∧ σ.place ≤ 1 + codes.length ∧ σ.done = false ∧ runF codes n σ = fwd codes at_ d i ∧ 1 + (codes.length : Int) - σ.place < n ∧ IsScan e x σ news₁) (n₀ := 200) (by assumption) (by assumption) ⟨by rfl, _, _, by rfl, hp.1, hp.2, rfl, rfl, by dsimp only; omega, isScan_mk (by assumption)⟩ ?_
  intro n m₁ news₁ h₁ tk₁ F₁ N₁ hI9
  (try k_fold)
  (refine cps ?_; intro G9 out9)
  obtain ⟨a2, x, σ, a1, b1, b2, b3, b4, b5, b6⟩ := hI9
  (refine out9 ?_; clear out9 G9)
  obtain ⟨k, rfl⟩ : ∃ k, n = k + 1 := ⟨n - 1, by omega⟩
  (refine IsScan.elimL b6 N₁ ?_; clear b6 N₁; intro dx hh kk hlt N₁)
  (repeat' (first | (k_unfold; (try dsimp only)) | (k_end; kc_close) | ((with_reducible show wpAny _ _ (execs (_ :: _) _) _ _ _); (with_reducible refine wpAny_execs_cons ?_); first | k_fold | (try dsimp only)) | (k_closed; first | ((with_reducible refine ite_pos ?_ ?_); (focus (k_dflt decide))) | ((with_reducible refine ite_neg ?_ ?_); (focus (k_dflt decide)))) | ((with_reducible show wpAny _ _ (call (.ref _) _) _ _ _); first | ((with_reducible show wpAny _ _ (call (.ref 488) _) _ _ _); (k_dflt (refine' DoesR.ledF (lost_does _ _ _ ⟨_, _, _, _, _, _⟩ _ (isScan_mk ?hlt)) ?uB ?uF ?uX ?uN ?usub ?uT ?uk ?uP ?ud ?uu ?_; walk_at "mine:l"; k_whole; walk_at "mine:x"))) | ((with_reducible show wpAny _ _ (call (.ref 537) _) _ _ _); (k_dflt (refine' DoesR.ledV (step_forward_does _ _ _ _ ⟨_, _, _, _, _, _⟩ _ (isScan_mk ?hlt) ?hc ?hp) ?uB ?uF ?uX ?uN ?usub ?uT ?uk ?uP ?ud ?uu ?_ ?_; walk_at "mine:l"; (case hc => assumption); (case hp => ((try dsimp only); omega)); k_whole; rotate_left; walk_at "mine:x"; rotate_left; (focus (intro nxZ hZ tkZ FZ NZ hSZ hnZ; walk_at "mine:s"; (try k_sweep); (try dsimp only)))))) | ((with_reducible show wpAny _ _ (call (.ref 629) _) _ _ _); (k_dflt (refine' Does.pureI (end_does _ _ _ ?hl) ?uB ?uF ?uX ?uN ?uT ?uk ?uP ?ust ?ud ?uu ?_; walk_at "mine:p"; (case hl => (have := (by assumption : Codes _).1; omega)); k_whole; intro tZ hZ tkZ FZ NZ; (try k_sweep); (try dsimp only)))) | ((with_reducible show wpAny _ _ (call (.ref 512) _) _ _ _); (k_dflt (refine' new_scan ?uB ?uF ?uX ?uN ?uT ?u1 ?u2 ?u3 ?ud ?_; walk_at "mine:c"; (refine IsScan.elimA hSZ NZ ?_; clear hSZ NZ; intro dxZ hhZ kkZ hltZ NZ); (try dsimp only at NZ); (try k_sweep); (try dsimp only))))) | ((with_reducible show wpAny _ _ (exec (.While _ _ _ _) _) _ _ _); refine halt ?_) | ((with_reducible show wpAny _ _ (exec (.For _ _ _ _ _) _) _ _ _); refine halt ?_) | ((with_reducible show wpAny _ _ (eval (.Name _ _) _) _ _ _); k_here; k_dflt (refine' ld ?k1 ?k2 ?_; (case k1 => k_asm); (case k2 => first | with_reducible assumption | exact rfl | assumption); k_whole)) | walk1 | (dsimp only; with_reducible show wpAny _ _ (call (.ref _) _) _ _ _) | (dsimp only; walk1) | (leave1; (try dsimp only))))
  · rw [run_at (by assumption) (mark_yes (by assumption)) (by assumption) (by assumption)] at b4
    refine hret _ [] _ _ (by assumption) News.nil (Kept.of_frame hg' (by assumption)) ⟨rfl, ?_⟩
    rw [← b4]
    exact IsI.of rfl
  · rw [run_next (by assumption) (mark_yes (by assumption)) (by assumption) (by assumption)] at b4
    have hpl := step_place (by assumption : (stepF codes _).done = false)
    (dsimp only [WhileStep2]; refine' ⟨_, _, _, _, k, rfl, ?wF, ?wN, ?wlt, ?_⟩; (case wF => assumption); (case wN => assumption); (case wlt => omega))
    exact ⟨a2, x, _, a1, by dsimp only at hpl; omega, by dsimp only at hpl; omega, by assumption, b4, by dsimp only at hpl; omega, isScan_mk (by assumption)⟩
  · rename _ ∧ _ => hX
    rw [run_soon (by assumption) (mark_yes (by assumption)) hX.2] at b4
    refine hexc _ _ _ _ (by assumption) ?_
    rw [← b4]
    exact hX.1
  · rw [run_at (by assumption) (mark_no (by assumption)) (by assumption) (by assumption)] at b4
    refine hret _ [] _ _ (by assumption) News.nil (Kept.of_frame hg' (by assumption)) ⟨rfl, ?_⟩
    rw [← b4]
    exact IsI.of rfl
  · rw [run_next (by assumption) (mark_no (by assumption)) (by assumption) (by assumption)] at b4
    have hpl := step_place (by assumption : (stepF codes _).done = false)
    (dsimp only [WhileStep2]; refine' ⟨_, _, _, _, k, rfl, ?wF, ?wN, ?wlt, ?_⟩; (case wF => assumption); (case wN => assumption); (case wlt => omega))
    exact ⟨a2, x, _, a1, by dsimp only at hpl; omega, by dsimp only at hpl; omega, by assumption, b4, by dsimp only at hpl; omega, isScan_mk (by assumption)⟩
  · rename _ ∧ _ => hX
    rw [run_soon (by assumption) (mark_no (by assumption)) hX.2] at b4
    refine hexc _ _ _ _ (by assumption) ?_
    rw [← b4]
    exact hX.1
  · rw [run_unbal (by assumption) (by assumption)] at b4
    refine hexc _ _ _ _ (by assumption) ?_
    rw [← b4]
    assumption
  · rw [run_none (by assumption) (by assumption)] at b4
    refine hret _ [] _ _ (by assumption) News.nil (Kept.of_frame hg' (by assumption)) ⟨rfl, ?_⟩
    rw [← b4]
    exact rfl
end
-- B2
noncomputable section
set_option maxRecDepth 100000

local macro_rules | `(tactic| k_room) => `(tactic| ktr_room)
noncomputable def IsState (x : Addr) (nx : Led) : Prop := ∃ (dx : Addr) (hh : Nat → Int) (kk : Nat → Tok), @LT.lt Nat _ dx x ∧ nx = [(x, instObj 68 dx), (dx, dictOf [⟨hh 1, .str (Str.ofString "opens") (kk 1), .ref 29⟩, ⟨hh 2, .str (Str.ofString "below") (kk 2), .int 0 208⟩, ⟨hh 3, .str (Str.ofString "least") (kk 3), .int 0 209⟩, ⟨hh 4, .str (Str.ofString "whole") (kk 4), .none⟩, ⟨hh 5, .str (Str.ofString "word") (kk 5), .none⟩, ⟨hh 6, .str (Str.ofString "string") (kk 6), .none⟩, ⟨hh 7, .str (Str.ofString "comment") (kk 7), .int 0 210⟩, ⟨hh 8, .str (Str.ofString "style") (kk 8), .str (S "") 211⟩, ⟨hh 9, .str (Str.ofString "nests") (kk 9), .bool false⟩, ⟨hh 10, .str (Str.ofString "start") (kk 10), .none⟩, ⟨hh 11, .str (Str.ofString "quoted") (kk 11), .bool false⟩, ⟨hh 12, .str (Str.ofString "half") (kk 12), .str (S "") 212⟩] 12)]
theorem isState_mk {x dx : Addr} {h1 h2 h3 h4 h5 h6 h7 h8 h9 h10 h11 h12 : Int} {k1 k2 k3 k4 k5 k6 k7 k8 k9 k10 k11 k12 : Tok} (hlt : @LT.lt Nat _ dx x) : IsState x [(x, instObj 68 dx), (dx, dictOf [⟨h1, .str (Str.ofString "opens") k1, .ref 29⟩, ⟨h2, .str (Str.ofString "below") k2, .int 0 208⟩, ⟨h3, .str (Str.ofString "least") k3, .int 0 209⟩, ⟨h4, .str (Str.ofString "whole") k4, .none⟩, ⟨h5, .str (Str.ofString "word") k5, .none⟩, ⟨h6, .str (Str.ofString "string") k6, .none⟩, ⟨h7, .str (Str.ofString "comment") k7, .int 0 210⟩, ⟨h8, .str (Str.ofString "style") k8, .str (S "") 211⟩, ⟨h9, .str (Str.ofString "nests") k9, .bool false⟩, ⟨h10, .str (Str.ofString "start") k10, .none⟩, ⟨h11, .str (Str.ofString "quoted") k11, .bool false⟩, ⟨h12, .str (Str.ofString "half") k12, .str (S "") 212⟩] 12)] :=
  ⟨dx, fun i => [h1, h1, h2, h3, h4, h5, h6, h7, h8, h9, h10, h11, h12].getD i h1, fun i => [k1, k1, k2, k3, k4, k5, k6, k7, k8, k9, k10, k11, k12].getD i k1, hlt, rfl⟩
set_option maxHeartbeats 8000000 in
theorem new_state {w : World} {mean : ExcName → Option Value} {mg mb : Str → Option Value} {dp un : Nat} {gd : Option (List Code)} {cn : Str} {cs : Scope} {a : Addr} {ccd : Value} {cl : List (Str × Addr)} {outer : List Env} {A₀ : Around} {base h₀ : Heap} {L : Addr} {m : Str → Option Value} {s : Shared}
    {Q E : Value → Shared → Prop} (B : Below A₀ base outer h₀) (F : Fr h₀ L s.heap m) (X : (K w.params).In h₀) (N : News h₀ L s.heap []) (T : Tp mean mg mb h₀) (hk : cs.kind = .function) (hd : dp + 3 < recursionLimit) (hu : un + 32 < cLine)
    (k : ∀ x h' tk' nx, Fr h₀ L h' m → News h₀ L h' nx → IsState x nx → Q (.ref x) { s with heap := h', toks := tk' }) :
    wpAny (model Pg w) (ktrTop dp un gd cn cs L a ccd cl outer) (call (.ref 68) []) Q E s := by
  refine call_cls F X N (by k_is) (by k_is) (by k_is) ?_
  intro x dx h' F' N' l1 l2
  replace l2 := ltN l2
  clear F N
  k_dflt (refine' code_def (binds := [(Str.ofString "self", .ref x), (Str.ofString "opens", .ref 29), (Str.ofString "below", .int 0 208), (Str.ofString "least", .int 0 209), (Str.ofString "whole", .none), (Str.ofString "word", .none), (Str.ofString "string", .none), (Str.ofString "comment", .int 0 210), (Str.ofString "style", .str (S "") 211), (Str.ofString "nests", .bool false), (Str.ofString "start", .none), (Str.ofString "quoted", .bool false), (Str.ofString "half", .str (S "") 212)]) ?k1 ?k2 ?k3 ?k4 ?k5 ?kA ?kF ?kK ?k6 ?k7 ?k8 ?k9 ?kB ?_ ?c2 ?c3 ?c4 ?c5; (case kA => exact rfl); (case kF => exact rfl); (case kK => assumption); (case k1 => k_asm); (case k2 => k_asm); (case k3 => k_asm); (case k4 => k_asm); (case k5 => k_asm); (case k6 => k_is); (case k7 => k_is); (case k8 => ktr_room); (case k9 => exact binds_K (by k_in) rfl (by k_is) rfl rfl (by kernel_rfl!)); (case c5 => decide); (case kB => exact locs rfl); (case c2 => exact rfl); (case c3 => exact rfl); (case c4 => exact rfl); k_whole; intro g' L' h' FG' F' N' B' X' T'; (try dsimp only); (try k_fold))
  (repeat' (first | (k_unfold; (try dsimp only)) | (k_end; kc_close) | ((with_reducible show wpAny _ _ (execs (_ :: _) _) _ _ _); (with_reducible refine wpAny_execs_cons ?_); (try dsimp only)) | (k_closed; first | ((with_reducible refine ite_pos ?_ ?_); (focus (k_dflt decide))) | ((with_reducible refine ite_neg ?_ ?_); (focus (k_dflt decide)))) | ((with_reducible show wpAny _ _ (exec (.While _ _ _ _) _) _ _ _); refine halt ?_) | ((with_reducible show wpAny _ _ (exec (.For _ _ _ _ _) _) _ _ _); refine halt ?_) | ((with_reducible show wpAny _ _ (eval (.Name _ _) _) _ _ _); k_here; k_dflt (refine' ld ?k1 ?k2 ?_; (case k1 => k_asm); (case k2 => first | with_reducible assumption | exact rfl | assumption); k_whole)) | walk1 | (dsimp only; walk1) | (leave1; (try dsimp only))))
  exact k _ _ _ _ (by assumption) (by assumption) (isState_mk l2)
theorem tup29 {w : World} {h : Heap} (X : (K w.params).In h) : IsTup h 29 #[] := ⟨_, X 29 _ (by k_is), rfl, _, rfl⟩
/-- nothing, or a number -/
noncomputable def Opt (v : Value) : Prop := v = .none ∨ ∃ q t, v = .int q t
theorem opt_none : Opt .none := .inl rfl
theorem opt_int (q : Int) (t : Tok) : Opt (.int q t) := .inr ⟨q, t, rfl⟩
noncomputable def IsWalk (e : Ar) (x : Addr) (p : Int) (c : Nat) (nx : Led) : Prop := ∃ (dx lc : Addr) (hh : Nat → Int) (kk : Nat → Tok) (be le : Int) (wh wo : Value) (vs : List Value) (is : List Int) (n : Nat), @LT.lt Nat _ dx x ∧ @LT.lt Nat _ x lc ∧ Opt wh ∧ Opt wo ∧ IntsAre vs is ∧ vs.length ≤ c ∧
  nx = [(x, instObj 442 dx), (dx, dictOf [⟨hh 1, .str (Str.ofString "view") (kk 1), .ref e.v⟩, ⟨hh 2, .str (Str.ofString "table") (kk 2), .ref e.t⟩, ⟨hh 3, .str (Str.ofString "place") (kk 3), .int p (kk 21)⟩, ⟨hh 4, .str (Str.ofString "opens") (kk 4), .ref lc⟩, ⟨hh 5, .str (Str.ofString "below") (kk 5), .int be (kk 22)⟩, ⟨hh 6, .str (Str.ofString "least") (kk 6), .int le (kk 23)⟩, ⟨hh 7, .str (Str.ofString "whole") (kk 7), wh⟩, ⟨hh 8, .str (Str.ofString "word") (kk 8), wo⟩, ⟨hh 9, .str (Str.ofString "string") (kk 9), .none⟩, ⟨hh 10, .str (Str.ofString "comment") (kk 10), .int 0 (kk 24)⟩, ⟨hh 11, .str (Str.ofString "style") (kk 11), .str (S "") (kk 25)⟩, ⟨hh 12, .str (Str.ofString "nests") (kk 12), .bool false⟩, ⟨hh 13, .str (Str.ofString "start") (kk 13), .none⟩, ⟨hh 14, .str (Str.ofString "quoted") (kk 14), .bool false⟩, ⟨hh 15, .str (Str.ofString "half") (kk 15), .str (S "") (kk 26)⟩] 15), (lc, listOf vs.toArray n)]
theorem IsWalk.elimE {e : Ar} {x : Addr} {p : Int} {c : Nat} {nx : Led} {C : Prop} (h : IsWalk e x p c nx) (k : ∀ (dx lc : Addr) (hh : Nat → Int) (kk : Nat → Tok) (be le : Int) (wh wo : Value) (vs : List Value) (is : List Int) (n : Nat), @LT.lt Nat _ dx x → @LT.lt Nat _ x lc → Opt wh → Opt wo → IntsAre vs is → vs.length ≤ c → nx = [(x, instObj 442 dx), (dx, dictOf [⟨hh 1, .str (Str.ofString "view") (kk 1), .ref e.v⟩, ⟨hh 2, .str (Str.ofString "table") (kk 2), .ref e.t⟩, ⟨hh 3, .str (Str.ofString "place") (kk 3), .int p (kk 21)⟩, ⟨hh 4, .str (Str.ofString "opens") (kk 4), .ref lc⟩, ⟨hh 5, .str (Str.ofString "below") (kk 5), .int be (kk 22)⟩, ⟨hh 6, .str (Str.ofString "least") (kk 6), .int le (kk 23)⟩, ⟨hh 7, .str (Str.ofString "whole") (kk 7), wh⟩, ⟨hh 8, .str (Str.ofString "word") (kk 8), wo⟩, ⟨hh 9, .str (Str.ofString "string") (kk 9), .none⟩, ⟨hh 10, .str (Str.ofString "comment") (kk 10), .int 0 (kk 24)⟩, ⟨hh 11, .str (Str.ofString "style") (kk 11), .str (S "") (kk 25)⟩, ⟨hh 12, .str (Str.ofString "nests") (kk 12), .bool false⟩, ⟨hh 13, .str (Str.ofString "start") (kk 13), .none⟩, ⟨hh 14, .str (Str.ofString "quoted") (kk 14), .bool false⟩, ⟨hh 15, .str (Str.ofString "half") (kk 15), .str (S "") (kk 26)⟩] 15), (lc, listOf vs.toArray n)] → C) : C := by
  obtain ⟨dx, lc, hh, kk, be, le, wh, wo, vs, is, n, q1, q2, q3, q4, q5, q6, hn⟩ := h
  exact k _ _ _ _ _ _ _ _ _ _ _ q1 q2 q3 q4 q5 q6 hn
theorem isWalk_mk {e : Ar} {x : Addr} {p : Int} {c : Nat} {dx lc : Addr} {h1 h2 h3 h4 h5 h6 h7 h8 h9 h10 h11 h12 h13 h14 h15 : Int} {k1 k2 k3 k4 k5 k6 k7 k8 k9 k10 k11 k12 k13 k14 k15 t1 t2 t3 t4 t5 t6 : Tok} {be le : Int} {wh wo : Value} {vs : List Value} {is : List Int} {n : Nat} (a : @LT.lt Nat _ dx x) (b : @LT.lt Nat _ x lc) (y : Opt wh) (d : Opt wo) (f : IntsAre vs is) (z : vs.length ≤ c) :
    IsWalk e x p c [(x, instObj 442 dx), (dx, dictOf [⟨h1, .str (Str.ofString "view") k1, .ref e.v⟩, ⟨h2, .str (Str.ofString "table") k2, .ref e.t⟩, ⟨h3, .str (Str.ofString "place") k3, .int p t1⟩, ⟨h4, .str (Str.ofString "opens") k4, .ref lc⟩, ⟨h5, .str (Str.ofString "below") k5, .int be t2⟩, ⟨h6, .str (Str.ofString "least") k6, .int le t3⟩, ⟨h7, .str (Str.ofString "whole") k7, wh⟩, ⟨h8, .str (Str.ofString "word") k8, wo⟩, ⟨h9, .str (Str.ofString "string") k9, .none⟩, ⟨h10, .str (Str.ofString "comment") k10, .int 0 t4⟩, ⟨h11, .str (Str.ofString "style") k11, .str (S "") t5⟩, ⟨h12, .str (Str.ofString "nests") k12, .bool false⟩, ⟨h13, .str (Str.ofString "start") k13, .none⟩, ⟨h14, .str (Str.ofString "quoted") k14, .bool false⟩, ⟨h15, .str (Str.ofString "half") k15, .str (S "") t6⟩] 15), (lc, listOf vs.toArray n)] :=
  ⟨dx, lc, fun i => [h1, h1, h2, h3, h4, h5, h6, h7, h8, h9, h10, h11, h12, h13, h14, h15].getD i h1, fun i => [k1, k1, k2, k3, k4, k5, k6, k7, k8, k9, k10, k11, k12, k13, k14, k15, k1, k1, k1, k1, k1, t1, t2, t3, t4, t5, t6].getD i k1, be, le, wh, wo, vs, is, n, a, b, y, d, f, z, rfl⟩
set_option maxHeartbeats 8000000 in
theorem new_walk {w : World} {mean : ExcName → Option Value} {mg mb : Str → Option Value} {dp un : Nat} {gd : Option (List Code)} {cn : Str} {cs : Scope} {a : Addr} {ccd : Value} {cl : List (Str × Addr)} {outer : List Env} {A₀ : Around} {base h₀ : Heap} {L : Addr} {m : Str → Option Value} {s : Shared}
    {Q E : Value → Shared → Prop} {e : Ar} {st : Addr} {led : Led} {p : Int} {tp : Tok} (hs : IsState st led) (B : Below A₀ base outer h₀) (F : Fr h₀ L s.heap m) (X : (K w.params).In h₀) (N : News h₀ L s.heap led) (T : Tp mean mg mb h₀) (hk : cs.kind = .function) (hd : dp + 3 < recursionLimit) (hu : un + 32 < cLine)
    (k : ∀ x h' tk' nx, Fr h₀ L h' m → News h₀ L h' nx → IsWalk e x p 0 nx → Q (.ref x) { s with heap := h', toks := tk' }) :
    wpAny (model Pg w) (ktrTop dp un gd cn cs L a ccd cl outer) (call (.ref 442) [.ref e.v, .ref e.t, .int p tp, .ref st]) Q E s := by
  obtain ⟨ds, hs1, ks1, hlt, rfl⟩ := hs
  refine call_cls F X N (by k_is) (by k_is) (by k_is) ?_
  intro x dx h' F' N' l1 l2
  replace l2 := ltN l2
  k_lt l1
  clear F N
  k_dflt (refine' code_def (binds := [(Str.ofString "self", .ref x), (Str.ofString "view", .ref e.v), (Str.ofString "table", .ref e.t), (Str.ofString "place", .int p tp), (Str.ofString "state", .ref st)]) ?k1 ?k2 ?k3 ?k4 ?k5 ?kA ?kF ?kK ?k6 ?k7 ?k8 ?k9 ?kB ?_ ?c2 ?c3 ?c4 ?c5; (case kA => exact rfl); (case kF => exact rfl); (case kK => assumption); (case k1 => k_asm); (case k2 => k_asm); (case k3 => k_asm); (case k4 => k_asm); (case k5 => k_asm); (case k6 => k_is); (case k7 => k_is); (case k8 => ktr_room); (case k9 => exact BindsTo.of_eq rfl); (case c5 => decide); (case kB => exact locs rfl); (case c2 => exact rfl); (case c3 => exact rfl); (case c4 => exact rfl); k_whole; intro g' L' h' FG' F' N' B' X' T'; (try dsimp only); (try k_fold))
  (repeat' (first | (k_unfold; (try dsimp only)) | (k_end; kc_close) | ((with_reducible show wpAny _ _ (execs (_ :: _) _) _ _ _); (with_reducible refine wpAny_execs_cons ?_); (try dsimp only)) | (k_closed; first | ((with_reducible refine ite_pos ?_ ?_); (focus (k_dflt decide))) | ((with_reducible refine ite_neg ?_ ?_); (focus (k_dflt decide)))) | ((with_reducible show wpAny _ _ (call (.type "list") _) _ _ _); (k_here; (with_reducible show wpAny _ _ (call (Value.type _) [Value.ref 29]) _ _ _); (with_unfolding_all (refine' list_copyKT ?k1 ?k2 ?k3 ?_ ?qz; (case k1 => k_asm); (case k2 => k_asm); (case k3 => exact tup29 (Frag.In.keeps (by k_asm) (Fr.keep (by k_asm)))); (case qz => decide); k_whole)); intro DZ cZ hZ FZ NZ l1; (try k_lt l1); (try k_sweep))) | ((with_reducible show wpAny _ _ (exec (.While _ _ _ _) _) _ _ _); refine halt ?_) | ((with_reducible show wpAny _ _ (exec (.For _ _ _ _ _) _) _ _ _); refine halt ?_) | ((with_reducible show wpAny _ _ (eval (.Name _ _) _) _ _ _); k_here; k_dflt (refine' ld ?k1 ?k2 ?_; (case k1 => k_asm); (case k2 => first | with_reducible assumption | exact rfl | assumption); k_whole)) | walk1 | (dsimp only; walk1) | (leave1; (try dsimp only))))
  rename News h₀ L _ _ => kN
  refine' k _ _ _ _ ?f ?n (isWalk_mk (vs := []) l2 ?l3 (.inl rfl) (.inl rfl) ?v ?z)
  case f => assumption
  case n => exact News.sub kN (by (first | (refine sub1 ?_; k_mem) | (refine sub2 ?_ ?_; k_mem; k_mem) | (refine sub3 ?_ ?_ ?_; k_mem; k_mem; k_mem) | ((repeat (refine' List.forall_mem_cons.mpr ⟨?_, ?_⟩; focus k_mem)); exact List.forall_mem_nil _)))
  case l3 => omega
  case v => exact .nil
  case z => exact Nat.le_refl _
end
noncomputable section
set_option maxRecDepth 100000
theorem IsWalk.elimL {e : Ar} {x : Addr} {p : Int} {c : Nat} {nx : Led} {C : Prop} {g hp : Heap} {L : Addr} (h : IsWalk e x p c nx) (N : News g L hp nx) (k : ∀ (dx lc : Addr) (hh : Nat → Int) (kk : Nat → Tok) (be le : Int) (wh wo : Value) (vs : List Value) (is : List Int) (n : Nat), @LT.lt Nat _ dx x → @LT.lt Nat _ x lc → Opt wh → Opt wo → IntsAre vs is → vs.length ≤ c → News g L hp [(x, instObj 442 dx), (dx, dictOf [⟨hh 1, .str (Str.ofString "view") (kk 1), .ref e.v⟩, ⟨hh 2, .str (Str.ofString "table") (kk 2), .ref e.t⟩, ⟨hh 3, .str (Str.ofString "place") (kk 3), .int p (kk 21)⟩, ⟨hh 4, .str (Str.ofString "opens") (kk 4), .ref lc⟩, ⟨hh 5, .str (Str.ofString "below") (kk 5), .int be (kk 22)⟩, ⟨hh 6, .str (Str.ofString "least") (kk 6), .int le (kk 23)⟩, ⟨hh 7, .str (Str.ofString "whole") (kk 7), wh⟩, ⟨hh 8, .str (Str.ofString "word") (kk 8), wo⟩, ⟨hh 9, .str (Str.ofString "string") (kk 9), .none⟩, ⟨hh 10, .str (Str.ofString "comment") (kk 10), .int 0 (kk 24)⟩, ⟨hh 11, .str (Str.ofString "style") (kk 11), .str (S "") (kk 25)⟩, ⟨hh 12, .str (Str.ofString "nests") (kk 12), .bool false⟩, ⟨hh 13, .str (Str.ofString "start") (kk 13), .none⟩, ⟨hh 14, .str (Str.ofString "quoted") (kk 14), .bool false⟩, ⟨hh 15, .str (Str.ofString "half") (kk 15), .str (S "") (kk 26)⟩] 15), (lc, listOf vs.toArray n)] → C) : C := by
  obtain ⟨dx, lc, hh, kk, be, le, wh, wo, vs, is, n, q1, q2, q3, q4, q5, q6, hn⟩ := h
  subst hn
  exact k _ _ _ _ _ _ _ _ _ _ _ q1 q2 q3 q4 q5 q6 N
end
-- B3
noncomputable section
set_option maxRecDepth 100000

set_option maxHeartbeats 4000000 in
theorem end_word_does (w : World) (e : Ar) (x : Addr) (p : Int) (c : Nat) (led : Led) (hl : IsWalk e x p c led) :
    Does w 1 8 Any 341 [.ref x] led (fun r nx => IsWalk e x p c nx ∧ r = .none) := by
  (refine IsWalk.elimE hl ?_; clear hl; intro dx lc hh kk be le wh wo vs is n hlt hlt2 hwh hwo hvs hz hnx)
  subst hnx
  unfold Does
  intro mean mg mb dp un gd cn cs a ccd cl outer A₀ base h₀ L m s g₀ Q E B F X N T hk hP st dj hd hu hret
  refine wpAny_call ?_
  k_dflt (refine' enter (binds := [(Str.ofString "self", .ref x)]) ?k1 ?k2 ?k3 ?k4 ?k5 ?kA ?kF ?kK ?k6 ?k7 ?k8 ?k9 ?kB ?_ ?c2 ?c3 ?c4 ?c5; (case kA => exact rfl); (case kF => exact rfl); (case kK => assumption); (case k1 => k_asm); (case k2 => k_asm); (case k3 => k_asm); (case k4 => k_asm); (case k5 => k_asm); (case k6 => k_is); (case k7 => k_is); (case k8 => ktr_room); (case k9 => first | exact BindsTo.of_eq rfl | exact binds_K (by k_in) rfl (by k_is) rfl rfl rfl); (case c5 => decide); (case kB => exact locs rfl); (case c2 => exact rfl); (case c3 => exact rfl); (case c4 => exact rfl); k_whole; intro g' L' h' tk0 FG' F' N' B' X' T' hg'; (try dsimp only); (try k_fold); (try (refine letA ?_; intro Ak)))
  clear hP st dj
  rcases hwo with rfl | ⟨q, tq, rfl⟩
  · (repeat' (first | (k_unfold; (try dsimp only)) | (k_end; kc_close) | ((with_reducible show wpAny _ _ (execs (_ :: _) _) _ _ _); (with_reducible refine wpAny_execs_cons ?_); first | k_fold | (try dsimp only)) | (k_closed; first | ((with_reducible refine ite_pos ?_ ?_); (focus (k_dflt decide))) | ((with_reducible refine ite_neg ?_ ?_); (focus (k_dflt decide)))) | ((with_reducible show wpAny _ _ (exec (.While _ _ _ _) _) _ _ _); refine halt ?_) | ((with_reducible show wpAny _ _ (exec (.For _ _ _ _ _) _) _ _ _); refine halt ?_) | ((with_reducible show wpAny _ _ (eval (.Name _ _) _) _ _ _); k_here; k_dflt (refine' ld ?k1 ?k2 ?_; (case k1 => k_asm); (case k2 => first | with_reducible assumption | exact rfl | assumption); k_whole)) | walk1 | (dsimp only; walk1) | (leave1; (try dsimp only))))
    refine hret _ _ _ _ (by assumption) (by assumption) (Kept.of_frame hg' (by assumption)) ⟨isWalk_mk hlt hlt2 hwh opt_none hvs hz, rfl⟩
  · (repeat' (first | (k_unfold; (try dsimp only)) | (k_end; kc_close) | ((with_reducible show wpAny _ _ (execs (_ :: _) _) _ _ _); (with_reducible refine wpAny_execs_cons ?_); first | k_fold | (try dsimp only)) | (k_closed; first | ((with_reducible refine ite_pos ?_ ?_); (focus (k_dflt decide))) | ((with_reducible refine ite_neg ?_ ?_); (focus (k_dflt decide)))) | ((with_reducible show wpAny _ _ (exec (.While _ _ _ _) _) _ _ _); refine halt ?_) | ((with_reducible show wpAny _ _ (exec (.For _ _ _ _ _) _) _ _ _); refine halt ?_) | ((with_reducible show wpAny _ _ (eval (.Name _ _) _) _ _ _); k_here; k_dflt (refine' ld ?k1 ?k2 ?_; (case k1 => k_asm); (case k2 => first | with_reducible assumption | exact rfl | assumption); k_whole)) | walk1 | (dsimp only; walk1) | (leave1; (try dsimp only))))
    refine hret _ _ _ _ (by assumption) (by assumption) (Kept.of_frame hg' (by assumption)) ⟨isWalk_mk hlt hlt2 (opt_int _ _) opt_none hvs hz, rfl⟩
set_option maxHeartbeats 4000000 in
theorem begin_word_does (w : World) (e : Ar) (x : Addr) (p : Int) (c : Nat) (led : Led) (hl : IsWalk e x p c led) :
    Does w 1 8 Any 348 [.ref x] led (fun r nx => IsWalk e x p c nx ∧ r = .none) := by
  (refine IsWalk.elimE hl ?_; clear hl; intro dx lc hh kk be le wh wo vs is n hlt hlt2 hwh hwo hvs hz hnx)
  subst hnx
  unfold Does
  intro mean mg mb dp un gd cn cs a ccd cl outer A₀ base h₀ L m s g₀ Q E B F X N T hk hP st dj hd hu hret
  refine wpAny_call ?_
  k_dflt (refine' enter (binds := [(Str.ofString "self", .ref x)]) ?k1 ?k2 ?k3 ?k4 ?k5 ?kA ?kF ?kK ?k6 ?k7 ?k8 ?k9 ?kB ?_ ?c2 ?c3 ?c4 ?c5; (case kA => exact rfl); (case kF => exact rfl); (case kK => assumption); (case k1 => k_asm); (case k2 => k_asm); (case k3 => k_asm); (case k4 => k_asm); (case k5 => k_asm); (case k6 => k_is); (case k7 => k_is); (case k8 => ktr_room); (case k9 => first | exact BindsTo.of_eq rfl | exact binds_K (by k_in) rfl (by k_is) rfl rfl rfl); (case c5 => decide); (case kB => exact locs rfl); (case c2 => exact rfl); (case c3 => exact rfl); (case c4 => exact rfl); k_whole; intro g' L' h' tk0 FG' F' N' B' X' T' hg'; (try dsimp only); (try k_fold); (try (refine letA ?_; intro Ak)))
  clear hP st dj
  rcases hwo with rfl | ⟨q, tq, rfl⟩
  · (repeat' (first | (k_unfold; (try dsimp only)) | (k_end; kc_close) | ((with_reducible show wpAny _ _ (execs (_ :: _) _) _ _ _); (with_reducible refine wpAny_execs_cons ?_); first | k_fold | (try dsimp only)) | (k_closed; first | ((with_reducible refine ite_pos ?_ ?_); (focus (k_dflt decide))) | ((with_reducible refine ite_neg ?_ ?_); (focus (k_dflt decide)))) | ((with_reducible show wpAny _ _ (exec (.While _ _ _ _) _) _ _ _); refine halt ?_) | ((with_reducible show wpAny _ _ (exec (.For _ _ _ _ _) _) _ _ _); refine halt ?_) | ((with_reducible show wpAny _ _ (eval (.Name _ _) _) _ _ _); k_here; k_dflt (refine' ld ?k1 ?k2 ?_; (case k1 => k_asm); (case k2 => first | with_reducible assumption | exact rfl | assumption); k_whole)) | walk1 | (dsimp only; walk1) | (leave1; (try dsimp only))))
    refine hret _ _ _ _ (by assumption) (by assumption) (Kept.of_frame hg' (by assumption)) ⟨isWalk_mk hlt hlt2 hwh (opt_int _ _) hvs hz, rfl⟩
  · (repeat' (first | (k_unfold; (try dsimp only)) | (k_end; kc_close) | ((with_reducible show wpAny _ _ (execs (_ :: _) _) _ _ _); (with_reducible refine wpAny_execs_cons ?_); first | k_fold | (try dsimp only)) | (k_closed; first | ((with_reducible refine ite_pos ?_ ?_); (focus (k_dflt decide))) | ((with_reducible refine ite_neg ?_ ?_); (focus (k_dflt decide)))) | ((with_reducible show wpAny _ _ (exec (.While _ _ _ _) _) _ _ _); refine halt ?_) | ((with_reducible show wpAny _ _ (exec (.For _ _ _ _ _) _) _ _ _); refine halt ?_) | ((with_reducible show wpAny _ _ (eval (.Name _ _) _) _ _ _); k_here; k_dflt (refine' ld ?k1 ?k2 ?_; (case k1 => k_asm); (case k2 => first | with_reducible assumption | exact rfl | assumption); k_whole)) | walk1 | (dsimp only; walk1) | (leave1; (try dsimp only))))
    refine hret _ _ _ _ (by assumption) (by assumption) (Kept.of_frame hg' (by assumption)) ⟨isWalk_mk hlt hlt2 hwh (opt_int _ _) hvs hz, rfl⟩
set_option maxHeartbeats 4000000 in
theorem depth_does (w : World) (e : Ar) (x : Addr) (p : Int) (c : Nat) (led : Led) (hl : IsWalk e x p c led) (hc : c ≤ 200) :
    Does w 1 8 Any 334 [.ref x] led (fun r nx => IsWalk e x p c nx ∧ ∃ q, IsI r q) := by
  (refine IsWalk.elimE hl ?_; clear hl; intro dx lc hh kk be le wh wo vs is n hlt hlt2 hwh hwo hvs hz hnx)
  subst hnx
  unfold Does
  intro mean mg mb dp un gd cn cs a ccd cl outer A₀ base h₀ L m s g₀ Q E B F X N T hk hP st dj hd hu hret
  refine wpAny_call ?_
  k_dflt (refine' enter (binds := [(Str.ofString "self", .ref x)]) ?k1 ?k2 ?k3 ?k4 ?k5 ?kA ?kF ?kK ?k6 ?k7 ?k8 ?k9 ?kB ?_ ?c2 ?c3 ?c4 ?c5; (case kA => exact rfl); (case kF => exact rfl); (case kK => assumption); (case k1 => k_asm); (case k2 => k_asm); (case k3 => k_asm); (case k4 => k_asm); (case k5 => k_asm); (case k6 => k_is); (case k7 => k_is); (case k8 => ktr_room); (case k9 => first | exact BindsTo.of_eq rfl | exact binds_K (by k_in) rfl (by k_is) rfl rfl rfl); (case c5 => decide); (case kB => exact locs rfl); (case c2 => exact rfl); (case c3 => exact rfl); (case c4 => exact rfl); k_whole; intro g' L' h' tk0 FG' F' N' B' X' T' hg'; (try dsimp only); (try k_fold); (try (refine letA ?_; intro Ak)))
  clear hP st dj
  (repeat' (first | (k_unfold; (try dsimp only)) | (k_end; kc_close) | ((with_reducible show wpAny _ _ (execs (_ :: _) _) _ _ _); (with_reducible refine wpAny_execs_cons ?_); first | k_fold | (try dsimp only)) | (k_closed; first | ((with_reducible refine ite_pos ?_ ?_); (focus (k_dflt decide))) | ((with_reducible refine ite_neg ?_ ?_); (focus (k_dflt decide)))) | ((with_reducible show wpAny _ _ (call (.ref _) _) _ _ _); first | ((with_reducible show wpAny _ _ (call (.ref 341) _) _ _ _); (k_dflt (refine' Does.ledV (end_word_does _ _ _ _ _ _ (isWalk_mk ?hlt ?hlt2 ?hwh ?hwo ?hvs ?hz)) ?uB ?uF ?uX ?uN ?usub ?uT ?uk ?uP ?ud ?uu ?_; walk_at "mine:l"; k_whole; intro nxZ hZ tkZ FZ NZ hSZ; walk_at "mine:w"; (try k_sweep); (try dsimp only))))) | ((with_reducible show wpAny _ _ (compareOp .Eq (.ref _) (.ref _)) _ _ _); (k_here; (with_reducible show wpAny _ _ (compareOp CmpOp.Eq (Value.ref _) (Value.ref _)) _ _ _); k_dflt (refine' eq_intsK (us := []) (ms := []) ?k1 ?k2 ?k3 ?k4 ?k5 ?_; (case k1 => exact News.isList (by k_asm) (by k_mem)); (case k2 => assumption); (case k3 => exact News.isList (by k_asm) (by k_mem)); (case k4 => exact IntsAre.nil); (case k5 => ktr_units); k_whole))) | ((with_reducible show wpAny _ _ (call (.builtin "list.pop") _) _ _ _); (k_here; (with_reducible show wpAny _ _ (call (Value.builtin _) [Value.ref _]) _ _ _); k_dflt (refine' kpa_pop ?qF ?qN ?qU ?qi ?ql ?qz ?_; (case qF => k_asm); (case qN => k_asm); (case qU => k_upd); (case qi => assumption); (case ql => first | omega | (rename IntsAre _ _ => hI9; have hL9 := IntsAre.length hI9; have hP9 := List.length_pos_iff.mpr (of_decide_eq_false (by assumption)); omega)); (case qz => (rw [PySem.sizeLine_eq]; omega))); (intro hZ tZ FZ NZ hIZ; (try dsimp only [List.nil_append, List.cons_append] at NZ)))) | ((with_reducible show wpAny _ _ (call (.builtin "list.append") _) _ _ _); (k_here; (with_reducible show wpAny _ _ (call (Value.builtin _) [Value.ref _, _]) _ _ _); k_dflt (refine' append_K ?k1 ?k2 ?k3 ?_ ?qz; (case k1 => k_asm); (case k2 => k_asm); (case k3 => k_upd); (case qz => (rw [List.size_toArray, PySem.sizeLine_eq]; omega)); k_whole); intro hZ FZ NZ; (try k_sweep))) | ((with_reducible show wpAny _ _ (call (.builtin "len") _) _ _ _); (k_here; (with_reducible show wpAny _ _ (call (Value.builtin "len") [Value.ref _]) _ _ _); k_dflt (refine' call_len_list ?k1 ?k2 ?_; (case k1 => exact News.isList (by k_asm) (by k_mem)); (case k2 => (rw [List.size_toArray]; omega)); k_whole))) | ((with_reducible show wpAny _ _ (exec (.While _ _ _ _) _) _ _ _); refine halt ?_) | ((with_reducible show wpAny _ _ (exec (.For _ _ _ _ _) _) _ _ _); refine halt ?_) | ((with_reducible show wpAny _ _ (eval (.Name _ _) _) _ _ _); k_here; k_dflt (refine' ld ?k1 ?k2 ?_; (case k1 => k_asm); (case k2 => first | with_reducible assumption | exact rfl | assumption); k_whole)) | walk1 | (dsimp only; with_reducible show wpAny _ _ (call (.ref _) _) _ _ _) | (dsimp only; walk1) | (leave1; (try dsimp only))))
  refine hret _ _ _ _ (by assumption) (by assumption) (Kept.of_frame hg' (by assumption)) ⟨isWalk_mk hlt hlt2 hwh hwo hvs hz, _, IsI.of rfl⟩
set_option maxHeartbeats 4000000 in
theorem open_at_does (w : World) (e : Ar) (x : Addr) (p : Int) (c : Nat) (led : Led) (hl : IsWalk e x p c led) (hc : c ≤ 200) (q : Int) (tq : Tok) :
    Does w 2 16 Any 355 [.ref x, .int q tq] led (fun r nx => IsWalk e x p (c + 1) nx ∧ r = .none) := by
  (refine IsWalk.elimE hl ?_; clear hl; intro dx lc hh kk be le wh wo vs is n hlt hlt2 hwh hwo hvs hz hnx)
  subst hnx
  unfold Does
  intro mean mg mb dp un gd cn cs a ccd cl outer A₀ base h₀ L m s g₀ Q E B F X N T hk hP st dj hd hu hret
  refine wpAny_call ?_
  k_dflt (refine' enter (binds := [(Str.ofString "self", .ref x), (Str.ofString "place", .int q tq)]) ?k1 ?k2 ?k3 ?k4 ?k5 ?kA ?kF ?kK ?k6 ?k7 ?k8 ?k9 ?kB ?_ ?c2 ?c3 ?c4 ?c5; (case kA => exact rfl); (case kF => exact rfl); (case kK => assumption); (case k1 => k_asm); (case k2 => k_asm); (case k3 => k_asm); (case k4 => k_asm); (case k5 => k_asm); (case k6 => k_is); (case k7 => k_is); (case k8 => ktr_room); (case k9 => first | exact BindsTo.of_eq rfl | exact binds_K (by k_in) rfl (by k_is) rfl rfl rfl); (case c5 => decide); (case kB => exact locs rfl); (case c2 => exact rfl); (case c3 => exact rfl); (case c4 => exact rfl); k_whole; intro g' L' h' tk0 FG' F' N' B' X' T' hg'; (try dsimp only); (try k_fold); (try (refine letA ?_; intro Ak)))
  clear hP st dj
  (repeat' (first | (k_unfold; (try dsimp only)) | (k_end; kc_close) | ((with_reducible show wpAny _ _ (execs (_ :: _) _) _ _ _); (with_reducible refine wpAny_execs_cons ?_); first | k_fold | (try dsimp only)) | (k_closed; first | ((with_reducible refine ite_pos ?_ ?_); (focus (k_dflt decide))) | ((with_reducible refine ite_neg ?_ ?_); (focus (k_dflt decide)))) | ((with_reducible show wpAny _ _ (call (.ref _) _) _ _ _); first | ((with_reducible show wpAny _ _ (call (.ref 341) _) _ _ _); (k_dflt (refine' Does.ledV (end_word_does _ _ _ _ _ _ (isWalk_mk ?hlt ?hlt2 ?hwh ?hwo ?hvs ?hz)) ?uB ?uF ?uX ?uN ?usub ?uT ?uk ?uP ?ud ?uu ?_; walk_at "mine:l"; k_whole; intro nxZ hZ tkZ FZ NZ hSZ; walk_at "mine:w"; (try k_sweep); (try dsimp only))))) | ((with_reducible show wpAny _ _ (compareOp .Eq (.ref _) (.ref _)) _ _ _); (k_here; (with_reducible show wpAny _ _ (compareOp CmpOp.Eq (Value.ref _) (Value.ref _)) _ _ _); k_dflt (refine' eq_intsK (us := []) (ms := []) ?k1 ?k2 ?k3 ?k4 ?k5 ?_; (case k1 => exact News.isList (by k_asm) (by k_mem)); (case k2 => assumption); (case k3 => exact News.isList (by k_asm) (by k_mem)); (case k4 => exact IntsAre.nil); (case k5 => ktr_units); k_whole))) | ((with_reducible show wpAny _ _ (call (.builtin "list.pop") _) _ _ _); (k_here; (with_reducible show wpAny _ _ (call (Value.builtin _) [Value.ref _]) _ _ _); k_dflt (refine' kpa_pop ?qF ?qN ?qU ?qi ?ql ?qz ?_; (case qF => k_asm); (case qN => k_asm); (case qU => k_upd); (case qi => assumption); (case ql => first | omega | (rename IntsAre _ _ => hI9; have hL9 := IntsAre.length hI9; have hP9 := List.length_pos_iff.mpr (of_decide_eq_false (by assumption)); omega)); (case qz => (rw [PySem.sizeLine_eq]; omega))); (intro hZ tZ FZ NZ hIZ; (try dsimp only [List.nil_append, List.cons_append] at NZ)))) | ((with_reducible show wpAny _ _ (call (.builtin "list.append") _) _ _ _); (k_here; (with_reducible show wpAny _ _ (call (Value.builtin _) [Value.ref _, _]) _ _ _); k_dflt (refine' append_K ?k1 ?k2 ?k3 ?_ ?qz; (case k1 => k_asm); (case k2 => k_asm); (case k3 => k_upd); (case qz => (rw [List.size_toArray, PySem.sizeLine_eq]; omega)); k_whole); intro hZ FZ NZ; (try k_sweep))) | ((with_reducible show wpAny _ _ (call (.builtin "len") _) _ _ _); (k_here; (with_reducible show wpAny _ _ (call (Value.builtin "len") [Value.ref _]) _ _ _); k_dflt (refine' call_len_list ?k1 ?k2 ?_; (case k1 => exact News.isList (by k_asm) (by k_mem)); (case k2 => (rw [List.size_toArray]; omega)); k_whole))) | ((with_reducible show wpAny _ _ (exec (.While _ _ _ _) _) _ _ _); refine halt ?_) | ((with_reducible show wpAny _ _ (exec (.For _ _ _ _ _) _) _ _ _); refine halt ?_) | ((with_reducible show wpAny _ _ (eval (.Name _ _) _) _ _ _); k_here; k_dflt (refine' ld ?k1 ?k2 ?_; (case k1 => k_asm); (case k2 => first | with_reducible assumption | exact rfl | assumption); k_whole)) | walk1 | (dsimp only; with_reducible show wpAny _ _ (call (.ref _) _) _ _ _) | (dsimp only; walk1) | (leave1; (try dsimp only))))
  rename News h₀ L _ _ => kN
  simp only [List.push_toArray] at kN
  rename IntsAre _ _ => hI
  refine hret _ _ _ _ (by assumption) kN (Kept.of_frame hg' (by assumption)) ⟨isWalk_mk (by assumption) (by assumption) opt_none (by assumption) (IntsAre.append hI (.cons q tq .nil)) ?_, rfl⟩
  rw [List.length_append, List.length_singleton]
  exact Nat.succ_le_succ (by assumption)
set_option maxHeartbeats 8000000 in
theorem close_does (w : World) (e : Ar) (x : Addr) (p : Int) (c : Nat) (led : Led) (hl : IsWalk e x p c led) (hc : c ≤ 200) :
    Does w 2 100 Any 362 [.ref x] led (fun r nx => IsWalk e x p c nx ∧ r = .none) := by
  (refine IsWalk.elimE hl ?_; clear hl; intro dx lc hh kk be le wh wo vs is n hlt hlt2 hwh hwo hvs hz hnx)
  subst hnx
  unfold Does
  intro mean mg mb dp un gd cn cs a ccd cl outer A₀ base h₀ L m s g₀ Q E B F X N T hk hP st dj hd hu hret
  refine wpAny_call ?_
  k_dflt (refine' enter (binds := [(Str.ofString "self", .ref x)]) ?k1 ?k2 ?k3 ?k4 ?k5 ?kA ?kF ?kK ?k6 ?k7 ?k8 ?k9 ?kB ?_ ?c2 ?c3 ?c4 ?c5; (case kA => exact rfl); (case kF => exact rfl); (case kK => assumption); (case k1 => k_asm); (case k2 => k_asm); (case k3 => k_asm); (case k4 => k_asm); (case k5 => k_asm); (case k6 => k_is); (case k7 => k_is); (case k8 => ktr_room); (case k9 => first | exact BindsTo.of_eq rfl | exact binds_K (by k_in) rfl (by k_is) rfl rfl rfl); (case c5 => decide); (case kB => exact locs rfl); (case c2 => exact rfl); (case c3 => exact rfl); (case c4 => exact rfl); k_whole; intro g' L' h' tk0 FG' F' N' B' X' T' hg'; (try dsimp only); (try k_fold); (try (refine letA ?_; intro Ak)))
  clear hP st dj
  (repeat' (first | (k_unfold; (try dsimp only)) | (k_end; kc_close) | ((with_reducible show wpAny _ _ (execs (_ :: _) _) _ _ _); (with_reducible refine wpAny_execs_cons ?_); first | k_fold | (try dsimp only)) | (k_closed; first | ((with_reducible refine ite_pos ?_ ?_); (focus (k_dflt decide))) | ((with_reducible refine ite_neg ?_ ?_); (focus (k_dflt decide)))) | ((with_reducible show wpAny _ _ (call (.ref _) _) _ _ _); first | ((with_reducible show wpAny _ _ (call (.ref 334) _) _ _ _); (k_dflt (refine' Does.ledI (depth_does _ _ _ _ _ _ (isWalk_mk ?hlt ?hlt2 ?hwh ?hwo ?hvs ?hz) ?hc) ?uB ?uF ?uX ?uN ?usub ?uT ?uk ?uP ?ud ?uu ?_; walk_at "mine:l"; (case hc => assumption); k_whole; intro nxZ qZ tZ hZ tkZ FZ NZ hSZ; walk_at "mine:w"; (try k_sweep); (try dsimp only)))) | ((with_reducible show wpAny _ _ (call (.ref 341) _) _ _ _); (k_dflt (refine' Does.ledV (end_word_does _ _ _ _ _ _ (isWalk_mk ?hlt ?hlt2 ?hwh ?hwo ?hvs ?hz)) ?uB ?uF ?uX ?uN ?usub ?uT ?uk ?uP ?ud ?uu ?_; walk_at "mine:l"; k_whole; intro nxZ hZ tkZ FZ NZ hSZ; walk_at "mine:w"; (try k_sweep); (try dsimp only))))) | ((with_reducible show wpAny _ _ (compareOp .Eq (.ref _) (.ref _)) _ _ _); (k_here; (with_reducible show wpAny _ _ (compareOp CmpOp.Eq (Value.ref _) (Value.ref _)) _ _ _); k_dflt (refine' eq_intsK (us := []) (ms := []) ?k1 ?k2 ?k3 ?k4 ?k5 ?_; (case k1 => exact News.isList (by k_asm) (by k_mem)); (case k2 => assumption); (case k3 => exact News.isList (by k_asm) (by k_mem)); (case k4 => exact IntsAre.nil); (case k5 => ktr_units); k_whole))) | ((with_reducible show wpAny _ _ (call (.builtin "list.pop") _) _ _ _); (k_here; (with_reducible show wpAny _ _ (call (Value.builtin _) [Value.ref _]) _ _ _); k_dflt (refine' kpa_pop ?qF ?qN ?qU ?qi ?ql ?qz ?_; (case qF => k_asm); (case qN => k_asm); (case qU => k_upd); (case qi => assumption); (case ql => first | omega | (rename IntsAre _ _ => hI9; have hL9 := IntsAre.length hI9; have hP9 := List.length_pos_iff.mpr (of_decide_eq_false (by assumption)); omega)); (case qz => (rw [PySem.sizeLine_eq]; omega))); (intro hZ tZ FZ NZ hIZ; (try dsimp only [List.nil_append, List.cons_append] at NZ)))) | ((with_reducible show wpAny _ _ (call (.builtin "list.append") _) _ _ _); (k_here; (with_reducible show wpAny _ _ (call (Value.builtin _) [Value.ref _, _]) _ _ _); k_dflt (refine' append_K ?k1 ?k2 ?k3 ?_ ?qz; (case k1 => k_asm); (case k2 => k_asm); (case k3 => k_upd); (case qz => (rw [List.size_toArray, PySem.sizeLine_eq]; omega)); k_whole); intro hZ FZ NZ; (try k_sweep))) | ((with_reducible show wpAny _ _ (call (.builtin "len") _) _ _ _); (k_here; (with_reducible show wpAny _ _ (call (Value.builtin "len") [Value.ref _]) _ _ _); k_dflt (refine' call_len_list ?k1 ?k2 ?_; (case k1 => exact News.isList (by k_asm) (by k_mem)); (case k2 => (rw [List.size_toArray]; omega)); k_whole))) | ((with_reducible show wpAny _ _ (exec (.While _ _ _ _) _) _ _ _); refine halt ?_) | ((with_reducible show wpAny _ _ (exec (.For _ _ _ _ _) _) _ _ _); refine halt ?_) | ((with_reducible show wpAny _ _ (eval (.Name _ _) _) _ _ _); k_here; k_dflt (refine' ld ?k1 ?k2 ?_; (case k1 => k_asm); (case k2 => first | with_reducible assumption | exact rfl | assumption); k_whole)) | walk1 | (dsimp only; with_reducible show wpAny _ _ (call (.ref _) _) _ _ _) | (dsimp only; walk1) | (leave1; (try dsimp only))))
  · refine hret _ _ _ _ (by assumption) (by assumption) (Kept.of_frame hg' (by assumption)) ⟨isWalk_mk (by assumption) (by assumption) (by assumption) (by assumption) (by assumption) (by assumption), rfl⟩
  · refine hret _ _ _ _ (by assumption) (by assumption) (Kept.of_frame hg' (by assumption)) ⟨isWalk_mk (by assumption) (by assumption) (by assumption) (by assumption) (by assumption) (by assumption), rfl⟩
end
-- B4
noncomputable section
set_option maxRecDepth 100000

set_option maxHeartbeats 8000000 in
theorem step_by_kind_does (w : World) (e : Ar) (x : Addr) (p : Int) (c : Nat) (led : Led) (hl : IsWalk e x p c led) (hc : c ≤ 200) (cd : Int) (hcd : Four cd) :
    Does w 3 110 (IsTable w e) 432 [.ref x, .ref (e.syn cd)] led (fun r nx => IsWalk e x p (c + 1) nx ∧ r = .none) := by
  (refine IsWalk.elimE hl ?_; clear hl; intro dx lc hh kk be le wh wo vs is n hlt hlt2 hwh hwo hvs hz hnx)
  subst hnx
  unfold Does
  intro mean mg mb dp un gd cn cs a ccd cl outer A₀ base h₀ L m s g₀ Q E B F X N T hk hP st dj hd hu hret
  refine wpAny_call ?_
  k_dflt (refine' enter (binds := [(Str.ofString "self", .ref x), (Str.ofString "syntax", .ref (e.syn cd))]) ?k1 ?k2 ?k3 ?k4 ?k5 ?kA ?kF ?kK ?k6 ?k7 ?k8 ?k9 ?kB ?_ ?c2 ?c3 ?c4 ?c5; (case kA => exact rfl); (case kF => exact rfl); (case kK => assumption); (case k1 => k_asm); (case k2 => k_asm); (case k3 => k_asm); (case k4 => k_asm); (case k5 => k_asm); (case k6 => k_is); (case k7 => k_is); (case k8 => ktr_room); (case k9 => first | exact BindsTo.of_eq rfl | exact binds_K (by k_in) rfl (by k_is) rfl rfl rfl); (case c5 => decide); (case kB => exact locs rfl); (case c2 => exact rfl); (case c3 => exact rfl); (case c4 => exact rfl); k_whole; intro g' L' h' tk0 FG' F' N' B' X' T' hg'; (try dsimp only); (try k_fold); (try (refine letA ?_; intro Ak)))
  have hT := isTable_mono _ _ _ _ (stays_of st dj hg') hP
  clear hP st dj
  (refine cps ?_; intro G9 out9)
  obtain ⟨q1, ⟨d', e1, e2, e3, e4, e5, e6, e7, e8, e9, I⟩, q2, q3, q4, q5, q6, q7, q8, q9, q10⟩ := syn_facts hT hcd
  (refine out9 ?_; clear out9 G9)
  (repeat' (first | (k_unfold; (try dsimp only)) | (k_end; kc_close) | ((with_reducible show wpAny _ _ (execs (_ :: _) _) _ _ _); (with_reducible refine wpAny_execs_cons ?_); first | k_fold | (try dsimp only)) | (k_closed; first | ((with_reducible refine ite_pos ?_ ?_); (focus (k_dflt decide))) | ((with_reducible refine ite_neg ?_ ?_); (focus (k_dflt decide)))) | ((with_reducible show wpAny _ _ (call (.ref _) _) _ _ _); first | ((with_reducible show wpAny _ _ (call (.ref 362) _) _ _ _); (k_dflt (refine' Does.ledV (close_does _ _ _ _ _ _ (isWalk_mk ?hlt ?hlt2 ?hwh ?hwo ?hvs ?hz) ?hc) ?uB ?uF ?uX ?uN ?usub ?uT ?uk ?uP ?ud ?uu ?_; walk_at "mine:l"; (case hc => assumption); k_whole; intro nxZ hZ tkZ FZ NZ hSZ; walk_at "mine:w"; (try k_sweep); (try dsimp only)))) | ((with_reducible show wpAny _ _ (call (.ref 355) _) _ _ _); (k_dflt (refine' Does.ledV (open_at_does _ _ _ _ _ _ (isWalk_mk ?hlt ?hlt2 ?hwh ?hwo ?hvs ?hz) ?hc _ _) ?uB ?uF ?uX ?uN ?usub ?uT ?uk ?uP ?ud ?uu ?_; walk_at "mine:l"; (case hc => assumption); k_whole; intro nxZ hZ tkZ FZ NZ hSZ; walk_at "mine:w"; (try k_sweep); (try dsimp only)))) | ((with_reducible show wpAny _ _ (call (.ref 348) _) _ _ _); (k_dflt (refine' Does.ledV (begin_word_does _ _ _ _ _ _ (isWalk_mk ?hlt ?hlt2 ?hwh ?hwo ?hvs ?hz)) ?uB ?uF ?uX ?uN ?usub ?uT ?uk ?uP ?ud ?uu ?_; walk_at "mine:l"; k_whole; intro nxZ hZ tkZ FZ NZ hSZ; walk_at "mine:w"; (try k_sweep); (try dsimp only)))) | ((with_reducible show wpAny _ _ (call (.ref 341) _) _ _ _); (k_dflt (refine' Does.ledV (end_word_does _ _ _ _ _ _ (isWalk_mk ?hlt ?hlt2 ?hwh ?hwo ?hvs ?hz)) ?uB ?uF ?uX ?uN ?usub ?uT ?uk ?uP ?ud ?uu ?_; walk_at "mine:l"; k_whole; intro nxZ hZ tkZ FZ NZ hSZ; walk_at "mine:w"; (try k_sweep); (try dsimp only)))) | ((with_reducible show wpAny _ _ (call (.ref 134) _) _ _ _); (k_dflt (refine' Does.pureV (is_word_part_does _ _ _ ?h1) ?uB ?uF ?uX ?uN ?uT ?uk ?uP ?ust ?ud ?uu ?_; walk_at "mine:p"; (case h1 => exact four_n9 (by assumption)); k_whole; intro hZ tkZ FZ NZ; (try k_sweep); (try dsimp only)))) | ((with_reducible show wpAny _ _ (call (.ref 127) _) _ _ _); (k_dflt (refine' Does.pureV (is_escape_does _ _ _ ?h1 ?h2) ?uB ?uF ?uX ?uN ?uT ?uk ?uP ?ust ?ud ?uu ?_; walk_at "mine:p"; (case h1 => exact four_n7 (by assumption)); (case h2 => exact four_n8 (by assumption)); k_whole; intro hZ tkZ FZ NZ; (try k_sweep); (try dsimp only)))) | ((with_reducible show wpAny _ _ (call (.ref 120) _) _ _ _); (k_dflt (refine' Does.pureV (has_does _ _ _ _ _ ?hf) ?uB ?uF ?uX ?uN ?uT ?uk ?uP ?ust ?ud ?uu ?_; walk_at "mine:p"; (case hf => decide +kernel); k_whole; intro hZ tkZ FZ NZ; (try k_sweep); (try dsimp only))))) | ((with_reducible show wpAny _ _ (exec (.While _ _ _ _) _) _ _ _); refine halt ?_) | ((with_reducible show wpAny _ _ (exec (.For _ _ _ _ _) _) _ _ _); refine halt ?_) | ((with_reducible show wpAny _ _ (eval (.Name _ _) _) _ _ _); k_here; k_dflt (refine' ld ?k1 ?k2 ?_; (case k1 => k_asm); (case k2 => first | with_reducible assumption | exact rfl | assumption); k_whole)) | walk1 | (dsimp only; with_reducible show wpAny _ _ (call (.ref _) _) _ _ _) | (dsimp only; walk1) | (leave1; (try dsimp only))))
  all_goals (refine hret _ _ _ _ (by assumption) (by assumption) (Kept.of_frame hg' (by assumption)) ⟨isWalk_mk (by assumption) (by assumption) (by assumption) (by assumption) (by assumption) (by first | assumption | exact Nat.le_succ_of_le (by assumption)), rfl⟩)
set_option maxHeartbeats 8000000 in
theorem step_plain_does (w : World) (codes : List Int) (e : Ar) (x : Addr) (p : Int) (c : Nat) (led : Led) (hl : IsWalk e x p c led) (hc : c ≤ 200) (hcs : Codes codes) (hp : 1 ≤ p ∧ p < 1 + codes.length) (li : Int) (tl : Tok) :
    Does w 5 120 (IsAr w codes e) 425 [.ref x, .int li tl] led (fun r nx => IsWalk e x (p + 1) (c + 1) nx ∧ r = .none) := by
  (refine IsWalk.elimE hl ?_; clear hl; intro dx lc hh kk be le wh wo vs is n hlt hlt2 hwh hwo hvs hz hnx)
  subst hnx
  unfold Does
  intro mean mg mb dp un gd cn cs a ccd cl outer A₀ base h₀ L m s g₀ Q E B F X N T hk hP st dj hd hu hret
  refine wpAny_call ?_
  k_dflt (refine' enter (binds := [(Str.ofString "self", .ref x), (Str.ofString "limit", .int li tl)]) ?k1 ?k2 ?k3 ?k4 ?k5 ?kA ?kF ?kK ?k6 ?k7 ?k8 ?k9 ?kB ?_ ?c2 ?c3 ?c4 ?c5; (case kA => exact rfl); (case kF => exact rfl); (case kK => assumption); (case k1 => k_asm); (case k2 => k_asm); (case k3 => k_asm); (case k4 => k_asm); (case k5 => k_asm); (case k6 => k_is); (case k7 => k_is); (case k8 => ktr_room); (case k9 => first | exact BindsTo.of_eq rfl | exact binds_K (by k_in) rfl (by k_is) rfl rfl rfl); (case c5 => decide); (case kB => exact locs rfl); (case c2 => exact rfl); (case c3 => exact rfl); (case c4 => exact rfl); k_whole; intro g' L' h' tk0 FG' F' N' B' X' T' hg'; (try dsimp only); (try k_fold); (try (refine letA ?_; intro Ak)))
  have hA9 := isAr_mono _ _ _ _ _ (stays_of st dj hg') hP
  clear hP st dj
  have hV := hA9.1
  have hT := hA9.2
  clear hA9
  refine IsView.use hV ?_
  intro dv lc hv1 hv2 kv1 kv2 tv vs IV Ll iv
  (repeat' (first | (k_unfold; (try dsimp only)) | (k_end; kc_close) | ((with_reducible show wpAny _ _ (execs (_ :: _) _) _ _ _); (with_reducible refine wpAny_execs_cons ?_); first | k_fold | (try dsimp only)) | (k_closed; first | ((with_reducible refine ite_pos ?_ ?_); (focus (k_dflt decide))) | ((with_reducible refine ite_neg ?_ ?_); (focus (k_dflt decide)))) | ((with_reducible show wpAny _ _ (call (.ref _) _) _ _ _); first | ((with_reducible show wpAny _ _ (call (.ref 432) _) _ _ _); (k_dflt (refine' Does.ledV (step_by_kind_does _ _ _ _ _ _ (isWalk_mk ?hlt ?hlt2 ?hwh ?hwo ?hvs ?hz) ?hc _ ?hcd) ?uB ?uF ?uX ?uN ?usub ?uT ?uk ?uP ?ud ?uu ?_; walk_at "mine:l"; (case hc => assumption); (case hcd => assumption); k_whole; intro nxZ hZ tkZ FZ NZ hSZ; walk_at "mine:w"; (try k_sweep); (try dsimp only)))) | ((with_reducible show wpAny _ _ (call (.ref 271) _) _ _ _); (k_dflt (refine' Does.pureS (syntax_at_does _ _ _ _ _ ?hp ?hc) ?ucc ?uB ?uF ?uX ?uN ?uT ?uk ?uV ?uW ?ust ?ud ?uu ?_ ?_; (case ucc => assumption); (case uV => assumption); (case uW => assumption); (case uB => k_asm); (case uF => k_asm); (case uX => k_asm); (case uN => k_asm); (case uT => k_asm); (case uk => exact rfl); (case ust => exact Fr.keep (by k_asm)); (case ud => ktr_room); (case uu => ktr_units); (case hp => (have := (by assumption : Codes _).1; omega)); (case hc => assumption); k_whole; (focus (intro hZ tkZ FZ NZ hiZ hfZ SZ; (have q1Z := four_ne1 hfZ); (have q2Z := four_ne2 hfZ); (have q3Z := four_ne3 hfZ); (have q4Z := four_ne4 hfZ); (have q5Z := four_ne5 hfZ); (have q6Z := four_ne6 hfZ); refine IsSyn.use SZ ?_; intro dZ e1Z e2Z e3Z e4Z e5Z e6Z e7Z e8Z e9Z IZ; (try k_sweep); (try dsimp only))); rotate_left; (focus (intro hZ tkZ FZ NZ hiZ; first | (exfalso; refine hiZ ?_; unfold Inside; omega) | ((try k_sweep); (try dsimp only)))); rotate_left))) | ((with_reducible show wpAny _ _ (call (.ref 285) _) _ _ _); (k_dflt (refine' Does.pureV (begin_mark_does _ _ _ _ _ ?hp ?hc) ?uB ?uF ?uX ?uN ?uT ?uk ?uP ?ust ?ud ?uu ?_; walk_at "mine:p"; (case hp => (have := (by assumption : Codes _).1; omega)); (case hc => assumption); k_whole; intro hZ tkZ FZ NZ; (try k_sweep); (try dsimp only)))) | ((with_reducible show wpAny _ _ (call (.ref 362) _) _ _ _); (k_dflt (refine' Does.ledV (close_does _ _ _ _ _ _ (isWalk_mk ?hlt ?hlt2 ?hwh ?hwo ?hvs ?hz) ?hc) ?uB ?uF ?uX ?uN ?usub ?uT ?uk ?uP ?ud ?uu ?_; walk_at "mine:l"; (case hc => assumption); k_whole; intro nxZ hZ tkZ FZ NZ hSZ; walk_at "mine:w"; (try k_sweep); (try dsimp only)))) | ((with_reducible show wpAny _ _ (call (.ref 355) _) _ _ _); (k_dflt (refine' Does.ledV (open_at_does _ _ _ _ _ _ (isWalk_mk ?hlt ?hlt2 ?hwh ?hwo ?hvs ?hz) ?hc _ _) ?uB ?uF ?uX ?uN ?usub ?uT ?uk ?uP ?ud ?uu ?_; walk_at "mine:l"; (case hc => assumption); k_whole; intro nxZ hZ tkZ FZ NZ hSZ; walk_at "mine:w"; (try k_sweep); (try dsimp only)))) | ((with_reducible show wpAny _ _ (call (.ref 348) _) _ _ _); (k_dflt (refine' Does.ledV (begin_word_does _ _ _ _ _ _ (isWalk_mk ?hlt ?hlt2 ?hwh ?hwo ?hvs ?hz)) ?uB ?uF ?uX ?uN ?usub ?uT ?uk ?uP ?ud ?uu ?_; walk_at "mine:l"; k_whole; intro nxZ hZ tkZ FZ NZ hSZ; walk_at "mine:w"; (try k_sweep); (try dsimp only)))) | ((with_reducible show wpAny _ _ (call (.ref 341) _) _ _ _); (k_dflt (refine' Does.ledV (end_word_does _ _ _ _ _ _ (isWalk_mk ?hlt ?hlt2 ?hwh ?hwo ?hvs ?hz)) ?uB ?uF ?uX ?uN ?usub ?uT ?uk ?uP ?ud ?uu ?_; walk_at "mine:l"; k_whole; intro nxZ hZ tkZ FZ NZ hSZ; walk_at "mine:w"; (try k_sweep); (try dsimp only)))) | ((with_reducible show wpAny _ _ (call (.ref 134) _) _ _ _); (k_dflt (refine' Does.pureV (is_word_part_does _ _ _ ?h1) ?uB ?uF ?uX ?uN ?uT ?uk ?uP ?ust ?ud ?uu ?_; walk_at "mine:p"; (case h1 => exact four_n9 (by assumption)); k_whole; intro hZ tkZ FZ NZ; (try k_sweep); (try dsimp only)))) | ((with_reducible show wpAny _ _ (call (.ref 127) _) _ _ _); (k_dflt (refine' Does.pureV (is_escape_does _ _ _ ?h1 ?h2) ?uB ?uF ?uX ?uN ?uT ?uk ?uP ?ust ?ud ?uu ?_; walk_at "mine:p"; (case h1 => exact four_n7 (by assumption)); (case h2 => exact four_n8 (by assumption)); k_whole; intro hZ tkZ FZ NZ; (try k_sweep); (try dsimp only)))) | ((with_reducible show wpAny _ _ (call (.ref 120) _) _ _ _); (k_dflt (refine' Does.pureV (has_does _ _ _ _ _ ?hf) ?uB ?uF ?uX ?uN ?uT ?uk ?uP ?ust ?ud ?uu ?_; walk_at "mine:p"; (case hf => decide +kernel); k_whole; intro hZ tkZ FZ NZ; (try k_sweep); (try dsimp only))))) | ((with_reducible show wpAny _ _ (exec (.While _ _ _ _) _) _ _ _); refine halt ?_) | ((with_reducible show wpAny _ _ (exec (.For _ _ _ _ _) _) _ _ _); refine halt ?_) | ((with_reducible show wpAny _ _ (eval (.Name _ _) _) _ _ _); k_here; k_dflt (refine' ld ?k1 ?k2 ?_; (case k1 => k_asm); (case k2 => first | with_reducible assumption | exact rfl | assumption); k_whole)) | walk1 | (dsimp only; with_reducible show wpAny _ _ (call (.ref _) _) _ _ _) | (dsimp only; walk1) | (leave1; (try dsimp only))))
  all_goals (refine hret _ _ _ _ (by assumption) (by assumption) (Kept.of_frame hg' (by assumption)) ⟨isWalk_mk (by assumption) (by assumption) (by assumption) (by assumption) (by assumption) (by assumption), rfl⟩)
set_option maxHeartbeats 8000000 in
theorem step_does (w : World) (codes : List Int) (e : Ar) (x : Addr) (p : Int) (c : Nat) (led : Led) (hl : IsWalk e x p c led) (hc : c ≤ 200) (hcs : Codes codes) (hp : 1 ≤ p ∧ p < 1 + codes.length) (li : Int) (tl : Tok) :
    Does w 6 130 (IsAr w codes e) 439 [.ref x, .int li tl] led (fun r nx => IsWalk e x (p + 1) (c + 1) nx ∧ r = .none) := by
  (refine IsWalk.elimE hl ?_; clear hl; intro dx lc hh kk be le wh wo vs is n hlt hlt2 hwh hwo hvs hz hnx)
  subst hnx
  unfold Does
  intro mean mg mb dp un gd cn cs a ccd cl outer A₀ base h₀ L m s g₀ Q E B F X N T hk hP st dj hd hu hret
  refine wpAny_call ?_
  k_dflt (refine' enter (binds := [(Str.ofString "self", .ref x), (Str.ofString "limit", .int li tl)]) ?k1 ?k2 ?k3 ?k4 ?k5 ?kA ?kF ?kK ?k6 ?k7 ?k8 ?k9 ?kB ?_ ?c2 ?c3 ?c4 ?c5; (case kA => exact rfl); (case kF => exact rfl); (case kK => assumption); (case k1 => k_asm); (case k2 => k_asm); (case k3 => k_asm); (case k4 => k_asm); (case k5 => k_asm); (case k6 => k_is); (case k7 => k_is); (case k8 => ktr_room); (case k9 => first | exact BindsTo.of_eq rfl | exact binds_K (by k_in) rfl (by k_is) rfl rfl rfl); (case c5 => decide); (case kB => exact locs rfl); (case c2 => exact rfl); (case c3 => exact rfl); (case c4 => exact rfl); k_whole; intro g' L' h' tk0 FG' F' N' B' X' T' hg'; (try dsimp only); (try k_fold); (try (refine letA ?_; intro Ak)))
  have hA9 := isAr_mono _ _ _ _ _ (stays_of st dj hg') hP
  clear hP st dj
  have hV := hA9.1
  have hT := hA9.2
  clear hA9
  refine IsView.use hV ?_
  intro dv lc hv1 hv2 kv1 kv2 tv vs IV Ll iv
  (repeat' (first | (k_unfold; (try dsimp only)) | (k_end; kc_close) | ((with_reducible show wpAny _ _ (execs (_ :: _) _) _ _ _); (with_reducible refine wpAny_execs_cons ?_); first | k_fold | (try dsimp only)) | (k_closed; first | ((with_reducible refine ite_pos ?_ ?_); (focus (k_dflt decide))) | ((with_reducible refine ite_neg ?_ ?_); (focus (k_dflt decide)))) | ((with_reducible show wpAny _ _ (call (.ref _) _) _ _ _); first | ((with_reducible show wpAny _ _ (call (.ref 425) _) _ _ _); (k_dflt (refine' Does.ledV (step_plain_does _ _ _ _ _ _ _ (isWalk_mk ?hlt ?hlt2 ?hwh ?hwo ?hvs ?hz) ?hc ?hcs ?hp _ _) ?uB ?uF ?uX ?uN ?usub ?uT ?uk ?uP ?ud ?uu ?_; walk_at "mine:l"; (case hc => assumption); (case hcs => assumption); (case hp => assumption); k_whole; intro nxZ hZ tkZ FZ NZ hSZ; walk_at "mine:w"; (try k_sweep); (try dsimp only)))) | ((with_reducible show wpAny _ _ (call (.ref 432) _) _ _ _); (k_dflt (refine' Does.ledV (step_by_kind_does _ _ _ _ _ _ (isWalk_mk ?hlt ?hlt2 ?hwh ?hwo ?hvs ?hz) ?hc _ ?hcd) ?uB ?uF ?uX ?uN ?usub ?uT ?uk ?uP ?ud ?uu ?_; walk_at "mine:l"; (case hc => assumption); (case hcd => assumption); k_whole; intro nxZ hZ tkZ FZ NZ hSZ; walk_at "mine:w"; (try k_sweep); (try dsimp only)))) | ((with_reducible show wpAny _ _ (call (.ref 271) _) _ _ _); (k_dflt (refine' Does.pureS (syntax_at_does _ _ _ _ _ ?hp ?hc) ?ucc ?uB ?uF ?uX ?uN ?uT ?uk ?uV ?uW ?ust ?ud ?uu ?_ ?_; (case ucc => assumption); (case uV => assumption); (case uW => assumption); (case uB => k_asm); (case uF => k_asm); (case uX => k_asm); (case uN => k_asm); (case uT => k_asm); (case uk => exact rfl); (case ust => exact Fr.keep (by k_asm)); (case ud => ktr_room); (case uu => ktr_units); (case hp => (have := (by assumption : Codes _).1; omega)); (case hc => assumption); k_whole; (focus (intro hZ tkZ FZ NZ hiZ hfZ SZ; (have q1Z := four_ne1 hfZ); (have q2Z := four_ne2 hfZ); (have q3Z := four_ne3 hfZ); (have q4Z := four_ne4 hfZ); (have q5Z := four_ne5 hfZ); (have q6Z := four_ne6 hfZ); refine IsSyn.use SZ ?_; intro dZ e1Z e2Z e3Z e4Z e5Z e6Z e7Z e8Z e9Z IZ; (try k_sweep); (try dsimp only))); rotate_left; (focus (intro hZ tkZ FZ NZ hiZ; first | (exfalso; refine hiZ ?_; unfold Inside; omega) | ((try k_sweep); (try dsimp only)))); rotate_left))) | ((with_reducible show wpAny _ _ (call (.ref 285) _) _ _ _); (k_dflt (refine' Does.pureV (begin_mark_does _ _ _ _ _ ?hp ?hc) ?uB ?uF ?uX ?uN ?uT ?uk ?uP ?ust ?ud ?uu ?_; walk_at "mine:p"; (case hp => (have := (by assumption : Codes _).1; omega)); (case hc => assumption); k_whole; intro hZ tkZ FZ NZ; (try k_sweep); (try dsimp only)))) | ((with_reducible show wpAny _ _ (call (.ref 362) _) _ _ _); (k_dflt (refine' Does.ledV (close_does _ _ _ _ _ _ (isWalk_mk ?hlt ?hlt2 ?hwh ?hwo ?hvs ?hz) ?hc) ?uB ?uF ?uX ?uN ?usub ?uT ?uk ?uP ?ud ?uu ?_; walk_at "mine:l"; (case hc => assumption); k_whole; intro nxZ hZ tkZ FZ NZ hSZ; walk_at "mine:w"; (try k_sweep); (try dsimp only)))) | ((with_reducible show wpAny _ _ (call (.ref 355) _) _ _ _); (k_dflt (refine' Does.ledV (open_at_does _ _ _ _ _ _ (isWalk_mk ?hlt ?hlt2 ?hwh ?hwo ?hvs ?hz) ?hc _ _) ?uB ?uF ?uX ?uN ?usub ?uT ?uk ?uP ?ud ?uu ?_; walk_at "mine:l"; (case hc => assumption); k_whole; intro nxZ hZ tkZ FZ NZ hSZ; walk_at "mine:w"; (try k_sweep); (try dsimp only)))) | ((with_reducible show wpAny _ _ (call (.ref 348) _) _ _ _); (k_dflt (refine' Does.ledV (begin_word_does _ _ _ _ _ _ (isWalk_mk ?hlt ?hlt2 ?hwh ?hwo ?hvs ?hz)) ?uB ?uF ?uX ?uN ?usub ?uT ?uk ?uP ?ud ?uu ?_; walk_at "mine:l"; k_whole; intro nxZ hZ tkZ FZ NZ hSZ; walk_at "mine:w"; (try k_sweep); (try dsimp only)))) | ((with_reducible show wpAny _ _ (call (.ref 341) _) _ _ _); (k_dflt (refine' Does.ledV (end_word_does _ _ _ _ _ _ (isWalk_mk ?hlt ?hlt2 ?hwh ?hwo ?hvs ?hz)) ?uB ?uF ?uX ?uN ?usub ?uT ?uk ?uP ?ud ?uu ?_; walk_at "mine:l"; k_whole; intro nxZ hZ tkZ FZ NZ hSZ; walk_at "mine:w"; (try k_sweep); (try dsimp only)))) | ((with_reducible show wpAny _ _ (call (.ref 134) _) _ _ _); (k_dflt (refine' Does.pureV (is_word_part_does _ _ _ ?h1) ?uB ?uF ?uX ?uN ?uT ?uk ?uP ?ust ?ud ?uu ?_; walk_at "mine:p"; (case h1 => exact four_n9 (by assumption)); k_whole; intro hZ tkZ FZ NZ; (try k_sweep); (try dsimp only)))) | ((with_reducible show wpAny _ _ (call (.ref 127) _) _ _ _); (k_dflt (refine' Does.pureV (is_escape_does _ _ _ ?h1 ?h2) ?uB ?uF ?uX ?uN ?uT ?uk ?uP ?ust ?ud ?uu ?_; walk_at "mine:p"; (case h1 => exact four_n7 (by assumption)); (case h2 => exact four_n8 (by assumption)); k_whole; intro hZ tkZ FZ NZ; (try k_sweep); (try dsimp only)))) | ((with_reducible show wpAny _ _ (call (.ref 120) _) _ _ _); (k_dflt (refine' Does.pureV (has_does _ _ _ _ _ ?hf) ?uB ?uF ?uX ?uN ?uT ?uk ?uP ?ust ?ud ?uu ?_; walk_at "mine:p"; (case hf => decide +kernel); k_whole; intro hZ tkZ FZ NZ; (try k_sweep); (try dsimp only))))) | ((with_reducible show wpAny _ _ (exec (.While _ _ _ _) _) _ _ _); refine halt ?_) | ((with_reducible show wpAny _ _ (exec (.For _ _ _ _ _) _) _ _ _); refine halt ?_) | ((with_reducible show wpAny _ _ (eval (.Name _ _) _) _ _ _); k_here; k_dflt (refine' ld ?k1 ?k2 ?_; (case k1 => k_asm); (case k2 => first | with_reducible assumption | exact rfl | assumption); k_whole)) | walk1 | (dsimp only; with_reducible show wpAny _ _ (call (.ref _) _) _ _ _) | (dsimp only; walk1) | (leave1; (try dsimp only))))
  all_goals (refine hret _ _ _ _ (by assumption) (by assumption) (Kept.of_frame hg' (by assumption)) ⟨isWalk_mk (by assumption) (by assumption) (by assumption) (by assumption) (by assumption) (by assumption), rfl⟩)
end
-- B5
noncomputable section
set_option maxRecDepth 100000

theorem Does.keep {w : World} {d u : Nat} {P : Heap → Prop} {f : Addr} {vs : List Value} {led led' rest : Led} {R : Value → Led → Prop} (D : Does w d u P f vs led R)
    {mean : ExcName → Option Value} {mg mb : Str → Option Value} {dp un : Nat} {gd : Option (List Code)} {cn : Str} {cs : Scope} {a : Addr} {ccd : Value} {cl : List (Str × Addr)} {outer : List Env} {A₀ : Around} {base h₀ : Heap} {L : Addr} {m : Str → Option Value} {s : Shared}
    {Q E : Value → Shared → Prop} (B : Below A₀ base outer h₀) (F : Fr h₀ L s.heap m) (X : (K w.params).In h₀) (N : News h₀ L s.heap led') (sub : ∀ p ∈ led, p ∈ led') (sub2 : ∀ p ∈ rest, p ∈ led') (dis : ∀ p ∈ rest, ∀ q ∈ led, q.1 ≠ p.1) (T : Tp mean mg mb h₀) (hk : cs.kind = .function) (hP : P h₀) (hd : dp + d < recursionLimit) (hu : un + u < cLine)
    (k : ∀ r nx h' tk', Fr h₀ L h' m → News h₀ L h' nx → News h₀ L h' rest → R r nx → Q r { s with heap := h', toks := tk' }) :
    wpAny (model Pg w) (ktrTop dp un gd cn cs L a ccd cl outer) (call (.ref f) vs) Q E s :=
  D mean mg mb dp un gd cn cs a ccd cl outer A₀ base h₀ L m s h₀ Q E B F X (News.sub N sub) T hk hP F.keep (fun p hp => (N p (sub p hp)).2.2) hd hu fun r nx h' tk' F' N' kp hr =>
    k r nx h' tk' F' N' (fun p hp => ⟨kp _ _ (N p (sub2 p hp)).1 fun q hq => dis p hp q hq, (N p (sub2 p hp)).2⟩) hr
theorem While_start {prog : Program} {w : World} {A : Around} {E : Value → Shared → Prop} {Q : Flow → Shared → Prop} {s : Shared} {env : Env} {h₀ : Heap} {L : Addr} {test : PySem.Expr} {body : List Stmt} {pos : Pos} {m : Str → Option Value} (J : Nat → (Str → Option Value) → List (Addr × Obj) → Prop) {n₀ : Nat}
    (F : Fr h₀ L s.heap m) (hs : ∃ news, News h₀ L s.heap news ∧ J n₀ m news)
    (turn : ∀ n m₁ news₁ h₁ tk₁, Fr h₀ L h₁ m₁ → News h₀ L h₁ news₁ → J n m₁ news₁ →
      wpAny (model prog w) A (isTrue test env (eval test env)) (fun b s₂ =>
        if b = true then wpAny (model prog w) A (execs body env) (WhileStep2 h₀ L s J Q n) E s₂ else Q .next s₂) E { s with heap := h₁, toks := tk₁ })
    (hE : PassesOwn (model prog w) A env E := by passes_own) : wpAny (model prog w) A (exec (.While test body [] pos) env) Q E s := by
  obtain ⟨news, N, j⟩ := hs
  exact While_inv2 J F N j turn hE
/-- an empty dict -/
noncomputable def IsEmpty (w : World) (o : Obj) : Prop := o.IsDictOf (intKind Pg w) []
theorem empty_es {w : World} {o : Obj} (h : IsEmpty w o) : ∃ ep, o.data = .dict #[] ep := by
  obtain ⟨es, ep, h2, h3, h4, h5, h6⟩ := h
  refine ⟨ep, ?_⟩
  rw [h3]
  have : es.toList = [] := by
    generalize hl : es.toList = l at h5
    cases h5
    rfl
  obtain ⟨l⟩ := es
  dsimp only at this
  rw [this]
theorem apart_walk {w : World} {g h : Heap} {L : Addr} {led' nx : Led} {e : Ar} {x : Addr} {p : Int} {c : Nat} {d : Addr} {o : Obj} (N : News g L h led') (hw : IsWalk e x p c nx) (sub : ∀ q ∈ nx, q ∈ led') (he : IsEmpty w o) (hm : (d, o) ∈ led') : ∀ q ∈ nx, q.1 ≠ d := by
  obtain ⟨ep, hd⟩ := empty_es he
  intro q hq z
  have e1 := (N q (sub q hq)).1
  have e2 := (N _ hm).1
  rw [z, e2] at e1
  have e3 := Option.some.inj e1
  have e4 : q.2.data = .dict #[] ep := by rw [← e3]; exact hd
  (refine IsWalk.elimE hw ?_; clear hw; intro dx lc hh kk be le wh wo vs is n hlt hlt2 hwh hwo hvs hz hnx)
  subst hnx
  rcases List.mem_cons.mp hq with rfl | hq
  · cases e4
  · rcases List.mem_cons.mp hq with rfl | hq
    · cases e4
    · rcases List.mem_cons.mp hq with rfl | hq
      · cases e4
      · cases hq
theorem news_append {g h : Heap} {L : Addr} {a b : Led} (N : News g L h a) (N2 : News g L h b) : News g L h (a ++ b) := fun p hp => (List.mem_append.mp hp).elim (N p) (N2 p)
set_option maxHeartbeats 8000000 in
theorem spans_to_does (w : World) (codes : List Int) (e : Ar) (hcs : Codes codes) (li : Int) (tl : Tok) (hli : li ≤ 1 + codes.length) :
    Does w 8 150 (IsAr w codes e) 460 [.ref e.v, .ref e.t, .int li tl] [] (fun r nx => ∃ (tp c1 c2 : Addr) (o1 o2 : Obj) (n : Nat), r = .ref tp ∧ nx = [(tp, { cls := .type "tuple", data := .seq #[.ref c1, .ref c2] n }), (c1, o1), (c2, o2)] ∧ IsEmpty w o1 ∧ IsEmpty w o2 ∧ (c1 == sysModules) = false ∧ (c2 == sysModules) = false) := by
  unfold Does
  intro mean mg mb dp un gd cn cs a ccd cl outer A₀ base h₀ L m s g₀ Q E B F X N T hk hP st dj hd hu hret
  refine wpAny_call ?_
  k_dflt (refine' enter (binds := [(Str.ofString "view", .ref e.v), (Str.ofString "table", .ref e.t), (Str.ofString "limit", .int li tl)]) ?k1 ?k2 ?k3 ?k4 ?k5 ?kA ?kF ?kK ?k6 ?k7 ?k8 ?k9 ?kB ?_ ?c2 ?c3 ?c4 ?c5; (case kA => exact rfl); (case kF => exact rfl); (case kK => assumption); (case k1 => k_asm); (case k2 => k_asm); (case k3 => k_asm); (case k4 => k_asm); (case k5 => k_asm); (case k6 => k_is); (case k7 => k_is); (case k8 => ktr_room); (case k9 => first | exact BindsTo.of_eq rfl | exact binds_K (by k_in) rfl (by k_is) rfl rfl rfl); (case c5 => decide); (case kB => exact locs rfl); (case c2 => exact rfl); (case c3 => exact rfl); (case c4 => exact rfl); k_whole; intro g' L' h' tk0 FG' F' N' B' X' T' hg'; (try dsimp only); (try k_fold); (try (refine letA ?_; intro Ak)))
  have hA9 := isAr_mono _ _ _ _ _ (stays_of st dj hg') hP
  clear hP st dj
  have hV := hA9.1
  have hT := hA9.2
  clear hA9
  refine IsView.use hV ?_
  intro dv lc hv1 hv2 kv1 kv2 tv vs IV Ll iv
  have hc1 := hcs.1
  (repeat' (first | (k_unfold; (try dsimp only)) | (k_end; kc_close) | ((with_reducible show wpAny _ _ (execs (_ :: _) _) _ _ _); (with_reducible refine wpAny_execs_cons ?_); first | k_fold | (try dsimp only)) | (k_closed; first | ((with_reducible refine ite_pos ?_ ?_); (focus (k_dflt decide))) | ((with_reducible refine ite_neg ?_ ?_); (focus (k_dflt decide)))) | ((with_reducible show wpAny _ _ (call (.ref _) _) _ _ _); first | ((with_reducible show wpAny _ _ (call (.ref 439) _) _ _ _); (refine halt ?_)) | ((with_reducible show wpAny _ _ (call (.ref 442) _) _ _ _); (k_dflt (refine' new_walk (by assumption) ?uB ?uF ?uX ?uN ?uT ?uk ?ud ?uu ?_; (case uB => k_asm); (case uF => k_asm); (case uX => k_asm); (case uN => k_asm); (case uT => k_asm); (case uk => exact rfl); (case ud => ktr_room); (case uu => ktr_units); k_whole; intro xZ hZ tkZ nxZ FZ NZ hSZ; (try k_sweep); (try dsimp only)))) | ((with_reducible show wpAny _ _ (call (.ref 68) _) _ _ _); (k_dflt (refine' new_state ?uB ?uF ?uX ?uN ?uT ?uk ?ud ?uu ?_; (case uB => k_asm); (case uF => k_asm); (case uX => k_asm); (case uN => exact News.nil); (case uT => k_asm); (case uk => exact rfl); (case ud => ktr_room); (case uu => ktr_units); k_whole; intro xZ hZ tkZ nxZ FZ NZ hSZ; (try k_sweep); (try dsimp only)))) | ((with_reducible show wpAny _ _ (call (.ref 622) _) _ _ _); (k_dflt (refine' Does.pureI (begin_does _ _ _) ?uB ?uF ?uX ?uN ?uT ?uk ?uP ?ust ?ud ?uu ?_; walk_at "mine:p"; k_whole; intro tZ hZ tkZ FZ NZ; (try k_sweep); (try dsimp only)))) | ((with_reducible show wpAny _ _ (call (.ref 629) _) _ _ _); (k_dflt (refine' Does.pureI (end_does _ _ _ ?hl) ?uB ?uF ?uX ?uN ?uT ?uk ?uP ?ust ?ud ?uu ?_; walk_at "mine:p"; (case hl => (have := (by assumption : Codes _).1; omega)); k_whole; intro tZ hZ tkZ FZ NZ; (try k_sweep); (try dsimp only))))) | ((with_reducible show wpAny _ _ (exec (.While _ _ _ _) _) _ _ _); refine halt ?_) | ((with_reducible show wpAny _ _ (exec (.For _ _ _ _ _) _) _ _ _); refine halt ?_) | ((with_reducible show wpAny _ _ (eval (.Name _ _) _) _ _ _); k_here; k_dflt (refine' ld ?k1 ?k2 ?_; (case k1 => k_asm); (case k2 => first | with_reducible assumption | exact rfl | assumption); k_whole)) | walk1 | (dsimp only; with_reducible show wpAny _ _ (call (.ref _) _) _ _ _) | (dsimp only; walk1) | (leave1; (try dsimp only))))
  refine unhalt ?_
  refine' While_start (fun n m₁ news₁ => m₁ (Str.ofString "view") = some (.ref e.v) ∧ m₁ (Str.ofString "limit") = some (.int li tl) ∧
      ∃ (x : Addr) (p : Int) (c : Nat) (nxw : Led) (d1 d2 : Addr) (o1 o2 : Obj), m₁ (Str.ofString "walk") = some (.ref x) ∧ m₁ (Str.ofString "comments") = some (.ref d1) ∧ m₁ (Str.ofString "strings") = some (.ref d2) ∧ 1 ≤ p ∧ (c : Int) + 1 ≤ p ∧ li - p < n ∧
        IsWalk e x p c nxw ∧ news₁ = nxw ++ [(d1, o1), (d2, o2)] ∧ IsEmpty w o1 ∧ IsEmpty w o2 ∧ (d1 == sysModules) = false ∧ (d2 == sysModules) = false) (n₀ := 200) ?iF ?iS ?_
  case iF => assumption
  case iS =>
    refine' ⟨_ ++ [(_, ?o1), (_, ?o2)], ?N, by rfl, by rfl, _, 1, 0, _, _, _, _, _, by rfl, by rfl, by rfl, by omega, by omega, by omega, by assumption, rfl, ?e1, ?e2, ?e3, ?e4⟩
    case N =>
      refine News.sub (by assumption) fun q hq => (List.mem_append.mp hq).elim (fun z => .tail _ (.tail _ (.tail _ z))) (fun z => (List.forall_mem_cons.mpr ⟨?m1, List.forall_mem_cons.mpr ⟨?m2, List.forall_mem_nil _⟩⟩ : ∀ q ∈ [_, _], q ∈ _) q z)
      case m1 => k_mem
      case m2 => k_mem
    case e1 => assumption
    case e2 => assumption
    case e3 => assumption
    case e4 => assumption
  intro nn m₁ news₁ h₁ tk₁ F₁ N₁ hI9
  (try k_fold)
  (refine cps ?_; intro G9 out9)
  obtain ⟨a1, a2, x, p, c, nxw, d1, d2, o1, o2, a3, a4, a5, b1, b2, b3, b4, rfl, b5, b6, b7, b8⟩ := hI9
  (refine out9 ?_; clear out9 G9)
  have hW := b4
  have hap1 := apart_walk N₁ hW (fun q hq => List.mem_append_left _ hq) b5 (d := d1) (by simp)
  have hap2 := apart_walk N₁ hW (fun q hq => List.mem_append_left _ hq) b6 (d := d2) (by simp)
  (refine IsWalk.elimE b4 ?_; clear b4; intro dx lc hh kk be le wh wo vs is n hlt hlt2 hwh hwo hvs hz hnx)
  subst hnx
  simp only [List.cons_append, List.nil_append] at N₁
  (repeat' (first | (k_unfold; (try dsimp only)) | (k_end; kc_close) | ((with_reducible show wpAny _ _ (execs (_ :: _) _) _ _ _); (with_reducible refine wpAny_execs_cons ?_); first | k_fold | (try dsimp only)) | (k_closed; first | ((with_reducible refine ite_pos ?_ ?_); (focus (k_dflt decide))) | ((with_reducible refine ite_neg ?_ ?_); (focus (k_dflt decide)))) | ((with_reducible show wpAny _ _ (call (.ref _) _) _ _ _); first | ((with_reducible show wpAny _ _ (call (.ref 439) _) _ _ _); (refine halt ?_)) | ((with_reducible show wpAny _ _ (call (.ref 442) _) _ _ _); (k_dflt (refine' new_walk (by assumption) ?uB ?uF ?uX ?uN ?uT ?uk ?ud ?uu ?_; (case uB => k_asm); (case uF => k_asm); (case uX => k_asm); (case uN => k_asm); (case uT => k_asm); (case uk => exact rfl); (case ud => ktr_room); (case uu => ktr_units); k_whole; intro xZ hZ tkZ nxZ FZ NZ hSZ; (try k_sweep); (try dsimp only)))) | ((with_reducible show wpAny _ _ (call (.ref 68) _) _ _ _); (k_dflt (refine' new_state ?uB ?uF ?uX ?uN ?uT ?uk ?ud ?uu ?_; (case uB => k_asm); (case uF => k_asm); (case uX => k_asm); (case uN => exact News.nil); (case uT => k_asm); (case uk => exact rfl); (case ud => ktr_room); (case uu => ktr_units); k_whole; intro xZ hZ tkZ nxZ FZ NZ hSZ; (try k_sweep); (try dsimp only)))) | ((with_reducible show wpAny _ _ (call (.ref 622) _) _ _ _); (k_dflt (refine' Does.pureI (begin_does _ _ _) ?uB ?uF ?uX ?uN ?uT ?uk ?uP ?ust ?ud ?uu ?_; walk_at "mine:p"; k_whole; intro tZ hZ tkZ FZ NZ; (try k_sweep); (try dsimp only)))) | ((with_reducible show wpAny _ _ (call (.ref 629) _) _ _ _); (k_dflt (refine' Does.pureI (end_does _ _ _ ?hl) ?uB ?uF ?uX ?uN ?uT ?uk ?uP ?ust ?ud ?uu ?_; walk_at "mine:p"; (case hl => (have := (by assumption : Codes _).1; omega)); k_whole; intro tZ hZ tkZ FZ NZ; (try k_sweep); (try dsimp only))))) | ((with_reducible show wpAny _ _ (exec (.While _ _ _ _) _) _ _ _); refine halt ?_) | ((with_reducible show wpAny _ _ (exec (.For _ _ _ _ _) _) _ _ _); refine halt ?_) | ((with_reducible show wpAny _ _ (eval (.Name _ _) _) _ _ _); k_here; k_dflt (refine' ld ?k1 ?k2 ?_; (case k1 => k_asm); (case k2 => first | with_reducible assumption | exact rfl | assumption); k_whole)) | walk1 | (dsimp only; with_reducible show wpAny _ _ (call (.ref _) _) _ _ _) | (dsimp only; walk1) | (leave1; (try dsimp only))))
  · refine unhalt ?_
    k_dflt (refine' Does.keep (rest := [(d1, o1), (d2, o2)]) (step_does w codes e x p c _ hW ?hc hcs ?hp _ _) ?uB ?uF ?uX ?uN ?usub ?usub2 ?udis ?uT ?uk ?uP ?ud ?uu ?_; (case uB => k_asm); (case uF => k_asm); (case uX => k_asm); (case uN => k_asm); (case usub => exact (by (first | (refine sub1 ?_; k_mem) | (refine sub2 ?_ ?_; k_mem; k_mem) | (refine sub3 ?_ ?_ ?_; k_mem; k_mem; k_mem) | ((repeat (refine' List.forall_mem_cons.mpr ⟨?_, ?_⟩; focus k_mem)); exact List.forall_mem_nil _)))); (case usub2 => exact (by (first | (refine sub1 ?_; k_mem) | (refine sub2 ?_ ?_; k_mem; k_mem) | (refine sub3 ?_ ?_ ?_; k_mem; k_mem; k_mem) | ((repeat (refine' List.forall_mem_cons.mpr ⟨?_, ?_⟩; focus k_mem)); exact List.forall_mem_nil _)))); (case uT => k_asm); (case uk => exact rfl); (case uP => exact ⟨by assumption, by assumption⟩); (case ud => ktr_room); (case uu => ktr_units); (case hc => omega); (case hp => omega))
    case udis =>
      intro q hq r hr
      rcases List.mem_cons.mp hq with rfl | hq
      · exact hap1 r hr
      · rcases List.mem_cons.mp hq with rfl | hq
        · exact hap2 r hr
        · cases hq
    intro r nx h2 tk2 F2 N2 N3 hR
    obtain ⟨hW2, rfl⟩ := hR
    have N4 := news_append N2 N3
    have hW3 := hW2
    clear N2 N3
    (refine IsWalk.elimE hW2 ?_; clear hW2; intro dx lc hh kk be le wh wo vs is n hlt hlt2 hwh hwo hvs hz hnx)
    subst hnx
    simp only [List.cons_append, List.nil_append] at N4
    k_sweep
    dsimp only
    (repeat' (first | (k_unfold; (try dsimp only)) | (k_end; kc_close) | ((with_reducible show wpAny _ _ (execs (_ :: _) _) _ _ _); (with_reducible refine wpAny_execs_cons ?_); first | k_fold | (try dsimp only)) | (k_closed; first | ((with_reducible refine ite_pos ?_ ?_); (focus (k_dflt decide))) | ((with_reducible refine ite_neg ?_ ?_); (focus (k_dflt decide)))) | ((with_reducible show wpAny _ _ (call (.ref _) _) _ _ _); first | ((with_reducible show wpAny _ _ (call (.ref 439) _) _ _ _); (refine halt ?_)) | ((with_reducible show wpAny _ _ (call (.ref 442) _) _ _ _); (k_dflt (refine' new_walk (by assumption) ?uB ?uF ?uX ?uN ?uT ?uk ?ud ?uu ?_; (case uB => k_asm); (case uF => k_asm); (case uX => k_asm); (case uN => k_asm); (case uT => k_asm); (case uk => exact rfl); (case ud => ktr_room); (case uu => ktr_units); k_whole; intro xZ hZ tkZ nxZ FZ NZ hSZ; (try k_sweep); (try dsimp only)))) | ((with_reducible show wpAny _ _ (call (.ref 68) _) _ _ _); (k_dflt (refine' new_state ?uB ?uF ?uX ?uN ?uT ?uk ?ud ?uu ?_; (case uB => k_asm); (case uF => k_asm); (case uX => k_asm); (case uN => exact News.nil); (case uT => k_asm); (case uk => exact rfl); (case ud => ktr_room); (case uu => ktr_units); k_whole; intro xZ hZ tkZ nxZ FZ NZ hSZ; (try k_sweep); (try dsimp only)))) | ((with_reducible show wpAny _ _ (call (.ref 622) _) _ _ _); (k_dflt (refine' Does.pureI (begin_does _ _ _) ?uB ?uF ?uX ?uN ?uT ?uk ?uP ?ust ?ud ?uu ?_; walk_at "mine:p"; k_whole; intro tZ hZ tkZ FZ NZ; (try k_sweep); (try dsimp only)))) | ((with_reducible show wpAny _ _ (call (.ref 629) _) _ _ _); (k_dflt (refine' Does.pureI (end_does _ _ _ ?hl) ?uB ?uF ?uX ?uN ?uT ?uk ?uP ?ust ?ud ?uu ?_; walk_at "mine:p"; (case hl => (have := (by assumption : Codes _).1; omega)); k_whole; intro tZ hZ tkZ FZ NZ; (try k_sweep); (try dsimp only))))) | ((with_reducible show wpAny _ _ (exec (.While _ _ _ _) _) _ _ _); refine halt ?_) | ((with_reducible show wpAny _ _ (exec (.For _ _ _ _ _) _) _ _ _); refine halt ?_) | ((with_reducible show wpAny _ _ (eval (.Name _ _) _) _ _ _); k_here; k_dflt (refine' ld ?k1 ?k2 ?_; (case k1 => k_asm); (case k2 => first | with_reducible assumption | exact rfl | assumption); k_whole)) | walk1 | (dsimp only; with_reducible show wpAny _ _ (call (.ref _) _) _ _ _) | (dsimp only; walk1) | (leave1; (try dsimp only))))
    (dsimp only [WhileStep2]; refine' ⟨_, _, _, _, nn - 1, rfl, ?wF, ?wN, ?wlt, ?_⟩; (case wF => assumption); (case wN => assumption); (case wlt => omega))
    exact ⟨a1, a2, x, p + 1, c + 1, _, d1, d2, o1, o2, a3, a4, a5, by omega, by omega, by omega, hW3, rfl, b5, b6, b7, b8⟩
  · refine' hret _ [(_, { cls := .type "tuple", data := .seq #[.ref d1, .ref d2] _ }), (d1, o1), (d2, o2)] _ _ ?f ?n (Kept.of_frame hg' (by assumption)) ⟨_, d1, d2, o1, o2, _, rfl, rfl, b5, b6, b7, b8⟩
    case f => assumption
    case n => exact News.sub (by assumption) (by (first | (refine sub1 ?_; k_mem) | (refine sub2 ?_ ?_; k_mem; k_mem) | (refine sub3 ?_ ?_ ?_; k_mem; k_mem; k_mem) | ((repeat (refine' List.forall_mem_cons.mpr ⟨?_, ?_⟩; focus k_mem)); exact List.forall_mem_nil _)))
end
-- B6
noncomputable section
set_option maxRecDepth 100000

noncomputable def flipc (c : Int) : Int := if c = 40 then 41 else if c = 41 then 40 else c
noncomputable def mir (codes : List Int) : List Int := (codes.map flipc).reverse
theorem mir_len (codes : List Int) : (mir codes).length = codes.length := by unfold mir; rw [List.length_reverse, List.length_map]
theorem flip_four {c : Int} (h : Four c) : Four (flipc c) := by
  rcases h with rfl | rfl | rfl | rfl <;> simp [Four, flipc]
theorem mir_codes {codes : List Int} (h : Codes codes) : Codes (mir codes) := by
  refine ⟨by rw [mir_len]; exact h.1, fun c hc => ?_⟩
  unfold mir at hc
  rw [List.mem_reverse, List.mem_map] at hc
  obtain ⟨d, hd, rfl⟩ := hc
  exact flip_four (h.2 d hd)
theorem cAt_mir (codes : List Int) (p : Int) : cAt (mir codes) (codes.length + 2 - p) = flipc (cAt codes (p - 1)) := by
  unfold cAt
  rw [mir_len]
  by_cases h : 1 ≤ p - 1 ∧ p - 1 < 1 + (codes.length : Int)
  · rw [if_pos (by omega), if_pos h]
    have h1 : (codes.length + 2 - p - 1 : Int).toNat < codes.length := by omega
    have h2 : (p - 1 - 1).toNat < codes.length := by omega
    unfold mir
    rw [List.getD_eq_getElem?_getD, List.getD_eq_getElem?_getD, List.getElem?_reverse (by rw [List.length_map]; exact h1), List.getElem?_map, List.length_map]
    have h3 : codes.length - 1 - (codes.length + 2 - p - 1 : Int).toNat = (p - 1 - 1).toNat := by omega
    rw [h3, List.getElem?_eq_getElem h2]
    rfl
  · rw [if_neg (by omega), if_neg h]
    rfl
noncomputable def unM (n : Int) (σ : Sc) : Sc := { σ with place := n + 2 - σ.place, good := n + 2 - σ.good }
theorem unM_place (n : Int) (σ : Sc) : (unM n σ).place = n + 2 - σ.place := rfl
theorem flip97 {c : Int} : flipc c = 97 ↔ c = 97 := by
  unfold flipc
  split
  · rename_i h; rw [h]; decide
  · split
    · rename_i h; rw [h]; decide
    · exact Iff.rfl
theorem flip40 {c : Int} : flipc c = 40 ↔ c = 41 := by
  unfold flipc
  split
  · rename_i h; rw [h]; decide
  · split
    · rename_i h; rw [h]; decide
    · rename_i h1 h2; exact ⟨fun q => absurd q h1, fun q => absurd q h2⟩
theorem flip41 {c : Int} : flipc c = 41 ↔ c = 40 := by
  unfold flipc
  split
  · rename_i h; rw [h]; decide
  · split
    · rename_i h; rw [h]; decide
    · rename_i h1 h2; exact ⟨fun q => absurd q h2, fun q => absurd q h1⟩
theorem stepB_count {codes : List Int} {σ : Sc} (h : cAt codes (σ.place - 1) = 97) (hc : (σ.isx && decide (σ.depth = 0)) = true) :
    unM codes.length (stepF (mir codes) (unM codes.length σ)) = { σ with place := codes.length + 2 - wend (mir codes) (codes.length + 2 - σ.place), done := true } := by
  unfold stepF
  rw [if_pos (by rw [unM_place, cAt_mir]; exact flip97.mpr h), if_pos (show ((unM codes.length σ).isx && decide ((unM codes.length σ).depth = 0)) = true from hc)]
  unfold unM
  dsimp only
  congr 1
  omega
theorem stepB_word {codes : List Int} {σ : Sc} (h : cAt codes (σ.place - 1) = 97) (hc : (σ.isx && decide (σ.depth = 0)) = false) :
    unM codes.length (stepF (mir codes) (unM codes.length σ)) = { σ with place := σ.place - 1 } := by
  unfold stepF
  rw [if_pos (by rw [unM_place, cAt_mir]; exact flip97.mpr h), if_neg (by show ¬ (σ.isx && decide (σ.depth = 0)) = true; rw [hc]; decide)]
  unfold unM
  dsimp only
  congr 1 <;> omega
theorem stepB_took {codes : List Int} {σ : Sc} (h : ¬ cAt codes (σ.place - 1) = 97) :
    unM codes.length (stepF (mir codes) (unM codes.length σ)) = took (cAt codes (σ.place - 1)) 41 40 { σ with place := σ.place - 1 } := by
  unfold stepF
  rw [if_neg (by rw [unM_place, cAt_mir]; exact fun q => h (flip97.mp q)), unM_place, cAt_mir]
  unfold took
  by_cases h1 : cAt codes (σ.place - 1) = 41
  · rw [if_pos (flip40.mpr h1), if_pos h1]
    unfold unM
    dsimp only
    congr 1 <;> omega
  · rw [if_neg (fun q => h1 (flip40.mp q)), if_neg h1]
    by_cases h2 : cAt codes (σ.place - 1) = 40
    · rw [if_pos (flip41.mpr h2), if_pos h2]
      unfold unM
      dsimp only
      congr 1 <;> omega
    · rw [if_neg (fun q => h2 (flip41.mp q)), if_neg h2]
      unfold unM
      dsimp only
      congr 1 <;> omega
theorem failsB {codes : List Int} {σ : Sc} : Fails (mir codes) (unM codes.length σ) ↔ cAt codes (σ.place - 1) = 40 ∧ σ.depth - 1 < σ.least := by
  unfold Fails
  rw [unM_place, cAt_mir, flip41]
  exact Iff.rfl
end
-- B7
noncomputable section
set_option maxRecDepth 100000

section
variable {prog : Program} {w : World} {A : Around} {E : Value → Shared → Prop} {s : Shared} {d : Addr} {i : Int} {t : Tok} {Q : Value → Shared → Prop}
theorem in_none (hm : s.heap.MapOf (intKind prog w) d (fun _ => none)) (lo : (d == sysModules) = false) (h : Q (.bool false) { s with toks := s.toks + 1 }) : wpAny (model prog w) A (compareOp .In (.int i t) (.ref d)) Q E s :=
  wpAny_in_of (intKind_is prog w i t) lo hm h
theorem notin_none (hm : s.heap.MapOf (intKind prog w) d (fun _ => none)) (lo : (d == sysModules) = false) (h : Q (.bool true) { s with toks := s.toks + 1 }) : wpAny (model prog w) A (compareOp .NotIn (.int i t) (.ref d)) Q E s :=
  wpAny_notIn_of (intKind_is prog w i t) lo hm h
end
noncomputable def IsArC (w : World) (codes : List Int) (e : Ar) (cm : Addr) (h : Heap) : Prop := IsAr w codes e h ∧ h.MapOf (intKind Pg w) cm (fun _ => none)
theorem isArC_mono (w : World) (codes : List Int) (e : Ar) (cm : Addr) : Mono (IsArC w codes e cm) := fun _ _ k h => ⟨isAr_mono _ _ _ _ _ k h.1, mapOf_mono k h.2⟩

set_option maxHeartbeats 8000000 in
theorem word_begin_does (w : World) (codes : List Int) (e : Ar) (x : Addr) (σ : Sc) (led : Led) (hl : IsScan e x σ led) (hc : Codes codes) (hp : 1 ≤ σ.place ∧ σ.place ≤ 1 + codes.length) (cm : Addr) (hlo : (cm == sysModules) = false) :
    Does w 6 64 (IsArC w codes e cm) 565 [.ref x, .ref cm] led (fun r nx => IsScan e x { σ with place := codes.length + 2 - wend (mir codes) (codes.length + 2 - σ.place) } nx ∧ r = .none) := by
  have hc1 := hc.1
  (refine IsScan.elimE hl ?_; clear hl; intro dx hh kk hlt hnx; subst hnx)
  unfold Does
  intro mean mg mb dp un gd cn cs a ccd cl outer A₀ base h₀ L m s g₀ Q E B F X N T hk hP st dj hd hu hret
  refine wpAny_call ?_
  k_dflt (refine' enter (binds := [(Str.ofString "scan", .ref x), (Str.ofString "comments", .ref cm)]) ?k1 ?k2 ?k3 ?k4 ?k5 ?kA ?kF ?kK ?k6 ?k7 ?k8 ?k9 ?kB ?_ ?c2 ?c3 ?c4 ?c5; (case kA => exact rfl); (case kF => exact rfl); (case kK => assumption); (case k1 => k_asm); (case k2 => k_asm); (case k3 => k_asm); (case k4 => k_asm); (case k5 => k_asm); (case k6 => k_is); (case k7 => k_is); (case k8 => ktr_room); (case k9 => first | exact BindsTo.of_eq rfl | exact binds_K (by k_in) rfl (by k_is) rfl rfl rfl); (case c5 => decide); (case kB => exact locs rfl); (case c2 => exact rfl); (case c3 => exact rfl); (case c4 => exact rfl); k_whole; intro g' L' h' tk0 FG' F' N' B' X' T' hg'; (try dsimp only); (try k_fold); (try (refine letA ?_; intro Ak)))
  obtain ⟨⟨hV, hT⟩, hM⟩ := isArC_mono _ _ _ _ _ _ (stays_of st dj hg') hP
  clear hP st dj
  have hV2 := hV
  (refine cps ?_; intro G9 out9)
  obtain ⟨dv, lc, hv1, hv2, kv1, kv2, tv, vs, nv, IV, Ll, iv⟩ := hV2
  (refine out9 ?_; clear out9 G9)
  (repeat' (first | (k_unfold; (try dsimp only)) | (k_end; kc_close) | ((with_reducible show wpAny _ _ (execs (_ :: _) _) _ _ _); (with_reducible refine wpAny_execs_cons ?_); first | k_fold | (try dsimp only)) | (k_closed; first | ((with_reducible refine ite_pos ?_ ?_); (focus (k_dflt decide))) | ((with_reducible refine ite_neg ?_ ?_); (focus (k_dflt decide)))) | ((with_reducible show wpAny _ _ (call (.ref _) _) _ _ _); first | ((with_reducible show wpAny _ _ (call (.ref 134) _) _ _ _); (k_dflt (refine' Does.pureV (is_word_part_does _ _ _ ?h1) ?uB ?uF ?uX ?uN ?uT ?uk ?uP ?ust ?ud ?uu ?_; walk_at "mine:p"; (case h1 => exact four_n9 (by assumption)); k_whole; intro hZ tkZ FZ NZ; (try k_sweep); (try dsimp only)))) | ((with_reducible show wpAny _ _ (call (.ref 127) _) _ _ _); (k_dflt (refine' Does.pureV (is_escape_does _ _ _ ?h1 ?h2) ?uB ?uF ?uX ?uN ?uT ?uk ?uP ?ust ?ud ?uu ?_; walk_at "mine:p"; (case h1 => exact four_n7 (by assumption)); (case h2 => exact four_n8 (by assumption)); k_whole; intro hZ tkZ FZ NZ; (try k_sweep); (try dsimp only)))) | ((with_reducible show wpAny _ _ (call (.ref 120) _) _ _ _); (k_dflt (refine' Does.pureV (has_does _ _ _ _ _ ?hf) ?uB ?uF ?uX ?uN ?uT ?uk ?uP ?ust ?ud ?uu ?_; walk_at "mine:p"; (case hf => decide +kernel); k_whole; intro hZ tkZ FZ NZ; (try k_sweep); (try dsimp only)))) | ((with_reducible show wpAny _ _ (call (.ref 271) _) _ _ _); (k_dflt (refine' Does.pureS (syntax_at_does _ _ _ _ _ ?hp ?hc) ?ucc ?uB ?uF ?uX ?uN ?uT ?uk ?uV ?uW ?ust ?ud ?uu ?_ ?_; (case ucc => assumption); (case uV => assumption); (case uW => assumption); (case uB => k_asm); (case uF => k_asm); (case uX => k_asm); (case uN => k_asm); (case uT => k_asm); (case uk => exact rfl); (case ust => exact Fr.keep (by k_asm)); (case ud => ktr_room); (case uu => ktr_units); (case hp => (have := (by assumption : Codes _).1; omega)); (case hc => assumption); k_whole; (focus (intro hZ tkZ FZ NZ hiZ hfZ SZ; (have q1Z := four_ne1 hfZ); (have q2Z := four_ne2 hfZ); (have q3Z := four_ne3 hfZ); (have q4Z := four_ne4 hfZ); (have q5Z := four_ne5 hfZ); (have q6Z := four_ne6 hfZ); refine IsSyn.use SZ ?_; intro dZ e1Z e2Z e3Z e4Z e5Z e6Z e7Z e8Z e9Z IZ; (try k_sweep); (try dsimp only))); rotate_left; (focus (intro hZ tkZ FZ NZ hiZ; first | (exfalso; refine hiZ ?_; unfold Inside; omega) | ((try k_sweep); (try dsimp only)))); rotate_left))) | ((with_reducible show wpAny _ _ (call (.ref 306) _) _ _ _); (k_dflt (refine' Does.pureV (is_quoted_does _ _ _ _ _ ?hp ?hc) ?uB ?uF ?uX ?uN ?uT ?uk ?uP ?ust ?ud ?uu ?_; walk_at "mine:p"; (case hp => (have := (by assumption : Codes _).1; omega)); (case hc => assumption); k_whole; intro hZ tkZ FZ NZ; (try k_sweep); (try dsimp only)))) | ((with_reducible show wpAny _ _ (call (.ref 622) _) _ _ _); (k_dflt (refine' Does.pureI (begin_does _ _ _) ?uB ?uF ?uX ?uN ?uT ?uk ?uP ?ust ?ud ?uu ?_; walk_at "mine:p"; k_whole; intro tZ hZ tkZ FZ NZ; (try k_sweep); (try dsimp only))))) | ((with_reducible show wpAny _ _ (compareOp .NotIn (.int _ _) (.ref _)) _ _ _); (k_here; k_dflt (refine' notin_none ?k1 ?k2 ?_; (case k1 => exact mapOf_mono (Fr.keep (by k_asm)) (by assumption)); (case k2 => assumption)))) | ((with_reducible show wpAny _ _ (compareOp .In (.int _ _) (.ref _)) _ _ _); (k_here; k_dflt (refine' in_none ?k1 ?k2 ?_; (case k1 => exact mapOf_mono (Fr.keep (by k_asm)) (by assumption)); (case k2 => assumption)))) | ((with_reducible show wpAny _ _ (exec (.While _ _ _ _) _) _ _ _); refine halt ?_) | ((with_reducible show wpAny _ _ (exec (.For _ _ _ _ _) _) _ _ _); refine halt ?_) | ((with_reducible show wpAny _ _ (eval (.Name _ _) _) _ _ _); k_here; k_dflt (refine' ld ?k1 ?k2 ?_; (case k1 => k_asm); (case k2 => first | with_reducible assumption | exact rfl | assumption); k_whole)) | walk1 | (dsimp only; with_reducible show wpAny _ _ (call (.ref _) _) _ _ _) | (dsimp only; walk1) | (leave1; (try dsimp only))))
  refine unhalt ?_
  refine' While_start (fun n m₁ news₁ => m₁ (Str.ofString "scan") = some (.ref x) ∧ m₁ (Str.ofString "view") = some (.ref e.v) ∧ m₁ (Str.ofString "table") = some (.ref e.t) ∧ m₁ (Str.ofString "comments") = some (.ref cm) ∧
      ∃ p : Int, 1 ≤ p ∧ p ≤ 1 + codes.length ∧ wendN (mir codes) n (codes.length + 2 - p) = wend (mir codes) (codes.length + 2 - σ.place) ∧ p - 1 < n ∧ IsScan e x { σ with place := p } news₁) (n₀ := 100) ?iF ?iS ?_
  case iF => assumption
  case iS => exact ⟨[(x, _), (dx, _)], News.sub (by assumption) (by (first | (refine sub1 ?_; k_mem) | (refine sub2 ?_ ?_; k_mem; k_mem) | (refine sub3 ?_ ?_ ?_; k_mem; k_mem; k_mem) | ((repeat (refine' List.forall_mem_cons.mpr ⟨?_, ?_⟩; focus k_mem)); exact List.forall_mem_nil _))), by rfl, by rfl, by rfl, by rfl, σ.place, hp.1, hp.2, rfl, by omega, isScan_mk hlt⟩
  intro n m₁ news₁ h₁ tk₁ F₁ N₁ hI9
  (try k_fold)
  (refine cps ?_; intro G9 out9)
  obtain ⟨a1, a2, a3, a4, p, b1, b2, b3, b4, b5⟩ := hI9
  (refine out9 ?_; clear out9 G9)
  obtain ⟨k, rfl⟩ : ∃ k, n = k + 1 := ⟨n - 1, by omega⟩
  clear hlt
  (refine IsScan.elimL b5 N₁ ?_; clear b5 N₁; intro dx hh kk hlt N₁)
  (repeat' (first | (k_unfold; (try dsimp only)) | (k_end; kc_close) | ((with_reducible show wpAny _ _ (execs (_ :: _) _) _ _ _); (with_reducible refine wpAny_execs_cons ?_); first | k_fold | (try dsimp only)) | (k_closed; first | ((with_reducible refine ite_pos ?_ ?_); (focus (k_dflt decide))) | ((with_reducible refine ite_neg ?_ ?_); (focus (k_dflt decide)))) | ((with_reducible show wpAny _ _ (call (.ref _) _) _ _ _); first | ((with_reducible show wpAny _ _ (call (.ref 134) _) _ _ _); (k_dflt (refine' Does.pureV (is_word_part_does _ _ _ ?h1) ?uB ?uF ?uX ?uN ?uT ?uk ?uP ?ust ?ud ?uu ?_; walk_at "mine:p"; (case h1 => exact four_n9 (by assumption)); k_whole; intro hZ tkZ FZ NZ; (try k_sweep); (try dsimp only)))) | ((with_reducible show wpAny _ _ (call (.ref 127) _) _ _ _); (k_dflt (refine' Does.pureV (is_escape_does _ _ _ ?h1 ?h2) ?uB ?uF ?uX ?uN ?uT ?uk ?uP ?ust ?ud ?uu ?_; walk_at "mine:p"; (case h1 => exact four_n7 (by assumption)); (case h2 => exact four_n8 (by assumption)); k_whole; intro hZ tkZ FZ NZ; (try k_sweep); (try dsimp only)))) | ((with_reducible show wpAny _ _ (call (.ref 120) _) _ _ _); (k_dflt (refine' Does.pureV (has_does _ _ _ _ _ ?hf) ?uB ?uF ?uX ?uN ?uT ?uk ?uP ?ust ?ud ?uu ?_; walk_at "mine:p"; (case hf => decide +kernel); k_whole; intro hZ tkZ FZ NZ; (try k_sweep); (try dsimp only)))) | ((with_reducible show wpAny _ _ (call (.ref 271) _) _ _ _); (k_dflt (refine' Does.pureS (syntax_at_does _ _ _ _ _ ?hp ?hc) ?ucc ?uB ?uF ?uX ?uN ?uT ?uk ?uV ?uW ?ust ?ud ?uu ?_ ?_; (case ucc => assumption); (case uV => assumption); (case uW => assumption); (case uB => k_asm); (case uF => k_asm); (case uX => k_asm); (case uN => k_asm); (case uT => k_asm); (case uk => exact rfl); (case ust => exact Fr.keep (by k_asm)); (case ud => ktr_room); (case uu => ktr_units); (case hp => (have := (by assumption : Codes _).1; omega)); (case hc => assumption); k_whole; (focus (intro hZ tkZ FZ NZ hiZ hfZ SZ; (have q1Z := four_ne1 hfZ); (have q2Z := four_ne2 hfZ); (have q3Z := four_ne3 hfZ); (have q4Z := four_ne4 hfZ); (have q5Z := four_ne5 hfZ); (have q6Z := four_ne6 hfZ); refine IsSyn.use SZ ?_; intro dZ e1Z e2Z e3Z e4Z e5Z e6Z e7Z e8Z e9Z IZ; (try k_sweep); (try dsimp only))); rotate_left; (focus (intro hZ tkZ FZ NZ hiZ; first | (exfalso; refine hiZ ?_; unfold Inside; omega) | ((try k_sweep); (try dsimp only)))); rotate_left))) | ((with_reducible show wpAny _ _ (call (.ref 306) _) _ _ _); (k_dflt (refine' Does.pureV (is_quoted_does _ _ _ _ _ ?hp ?hc) ?uB ?uF ?uX ?uN ?uT ?uk ?uP ?ust ?ud ?uu ?_; walk_at "mine:p"; (case hp => (have := (by assumption : Codes _).1; omega)); (case hc => assumption); k_whole; intro hZ tkZ FZ NZ; (try k_sweep); (try dsimp only)))) | ((with_reducible show wpAny _ _ (call (.ref 622) _) _ _ _); (k_dflt (refine' Does.pureI (begin_does _ _ _) ?uB ?uF ?uX ?uN ?uT ?uk ?uP ?ust ?ud ?uu ?_; walk_at "mine:p"; k_whole; intro tZ hZ tkZ FZ NZ; (try k_sweep); (try dsimp only))))) | ((with_reducible show wpAny _ _ (compareOp .NotIn (.int _ _) (.ref _)) _ _ _); (k_here; k_dflt (refine' notin_none ?k1 ?k2 ?_; (case k1 => exact mapOf_mono (Fr.keep (by k_asm)) (by assumption)); (case k2 => assumption)))) | ((with_reducible show wpAny _ _ (compareOp .In (.int _ _) (.ref _)) _ _ _); (k_here; k_dflt (refine' in_none ?k1 ?k2 ?_; (case k1 => exact mapOf_mono (Fr.keep (by k_asm)) (by assumption)); (case k2 => assumption)))) | ((with_reducible show wpAny _ _ (exec (.While _ _ _ _) _) _ _ _); refine halt ?_) | ((with_reducible show wpAny _ _ (exec (.For _ _ _ _ _) _) _ _ _); refine halt ?_) | ((with_reducible show wpAny _ _ (eval (.Name _ _) _) _ _ _); k_here; k_dflt (refine' ld ?k1 ?k2 ?_; (case k1 => k_asm); (case k2 => first | with_reducible assumption | exact rfl | assumption); k_whole)) | walk1 | (dsimp only; with_reducible show wpAny _ _ (call (.ref _) _) _ _ _) | (dsimp only; walk1) | (leave1; (try dsimp only))))
  · have hw := (kd_w (by assumption)).mp (by assumption : kd (cAt codes (p - 1)) = Str.ofString "w")
    rw [wendN, if_pos (by rw [cAt_mir]; exact flip97.mpr hw)] at b3
    (dsimp only [WhileStep2]; refine' ⟨_, _, _, _, k, rfl, ?wF, ?wN, ?wlt, ?_⟩; (case wF => assumption); (case wN => assumption); (case wlt => omega))
    refine ⟨a1, a2, a3, a4, p - 1, by omega, by omega, ?_, by omega, isScan_mk (by assumption)⟩
    rw [← b3]
    congr 1
    omega
  · have hw := fun q => (by assumption : ¬ kd (cAt codes (p - 1)) = Str.ofString "w") ((kd_w (by assumption)).mpr q)
    rw [wendN, if_neg (by rw [cAt_mir]; exact fun q => hw (flip97.mp q))] at b3
    have hpp : (codes.length : Int) + 2 - wend (mir codes) (codes.length + 2 - σ.place) = p := by rw [← b3]; omega
    rw [hpp] at hret
    exact hret _ _ _ _ (by assumption) (by assumption) (Kept.of_frame hg' (by assumption)) ⟨isScan_mk (by assumption), rfl⟩
  · have h0 : cAt codes (p - 1) = -1 := by unfold cAt; rw [if_neg (by omega)]
    rw [wendN, if_neg (by rw [cAt_mir, h0]; decide)] at b3
    have hpp : (codes.length : Int) + 2 - wend (mir codes) (codes.length + 2 - σ.place) = p := by rw [← b3]; omega
    rw [hpp] at hret
    exact hret _ _ _ _ (by assumption) (by assumption) (Kept.of_frame hg' (by assumption)) ⟨isScan_mk (by assumption), rfl⟩
set_option maxHeartbeats 8000000 in
theorem step_backward_does (w : World) (codes : List Int) (e : Ar) (x : Addr) (σ : Sc) (led : Led) (hl : IsScan e x σ led) (hc : Codes codes) (hp : 1 < σ.place ∧ σ.place ≤ 1 + codes.length) (cm sm : Addr) (hlo : (cm == sysModules) = false) :
    DoesR w 8 80 (IsArC w codes e cm) 572 [.ref x, .ref cm, .ref sm] led (fun r nx => IsScan e x (unM codes.length (stepF (mir codes) (unM codes.length σ))) nx ∧ r = .none ∧ ¬ Fails (mir codes) (unM codes.length σ))
      (fun g => g = ⟨Str.ofString "Containing expression ends prematurely", σ.good, σ.place - 1⟩ ∧ Fails (mir codes) (unM codes.length σ)) := by
  have hc1 := hc.1
  (refine IsScan.elimE hl ?_; clear hl; intro dx hh kk hlt hnx; subst hnx)
  unfold DoesR
  intro mean mg mb dp un gd cn cs a ccd cl outer A₀ base h₀ L m s g₀ Q E B F X N T hk hP st dj hd hu hret hexc
  refine wpAny_call ?_
  k_dflt (refine' enter (binds := [(Str.ofString "scan", .ref x), (Str.ofString "comments", .ref cm), (Str.ofString "strings", .ref sm)]) ?k1 ?k2 ?k3 ?k4 ?k5 ?kA ?kF ?kK ?k6 ?k7 ?k8 ?k9 ?kB ?_ ?c2 ?c3 ?c4 ?c5; (case kA => exact rfl); (case kF => exact rfl); (case kK => assumption); (case k1 => k_asm); (case k2 => k_asm); (case k3 => k_asm); (case k4 => k_asm); (case k5 => k_asm); (case k6 => k_is); (case k7 => k_is); (case k8 => ktr_room); (case k9 => first | exact BindsTo.of_eq rfl | exact binds_K (by k_in) rfl (by k_is) rfl rfl rfl); (case c5 => decide); (case kB => exact locs rfl); (case c2 => exact rfl); (case c3 => exact rfl); (case c4 => exact rfl); k_whole; intro g' L' h' tk0 FG' F' N' B' X' T' hg'; (try dsimp only); (try k_fold); (try (refine letA ?_; intro Ak)))
  obtain ⟨⟨hV, hT⟩, hM⟩ := isArC_mono _ _ _ _ _ _ (stays_of st dj hg') hP
  clear hP st dj
  have hAC : IsArC w codes e cm g' := ⟨⟨hV, hT⟩, hM⟩
  have hV2 := hV
  (refine cps ?_; intro G9 out9)
  obtain ⟨dv, lc, hv1, hv2, kv1, kv2, tv, vs, nv, IV, Ll, iv⟩ := hV2
  (refine out9 ?_; clear out9 G9)
  (repeat' (first | (k_unfold; (try dsimp only)) | (k_end; kc_close) | ((with_reducible show wpAny _ _ (execs (_ :: _) _) _ _ _); (with_reducible refine wpAny_execs_cons ?_); first | k_fold | (try dsimp only)) | (k_closed; first | ((with_reducible refine ite_pos ?_ ?_); (focus (k_dflt decide))) | ((with_reducible refine ite_neg ?_ ?_); (focus (k_dflt decide)))) | ((with_reducible show wpAny _ _ (call (.ref _) _) _ _ _); first | ((with_reducible show wpAny _ _ (call (.ref 544) _) _ _ _); (k_dflt (refine' DoesR.ledV (take_kind_bwd _ _ _ ⟨_, _, _, _, _, _⟩ _ (isScan_mk ?hlt) _ _ _ _ ?hc) ?uB ?uF ?uX ?uN ?usub ?uT ?uk ?uP ?ud ?uu ?_ ?_; walk_at "mine:l"; (case hc => assumption); k_whole; rotate_left; walk_at "mine:x"; rotate_left; (focus (intro nxZ hZ tkZ FZ NZ hSZ hnZ; (try k_sweep); (try dsimp only)))))) | ((with_reducible show wpAny _ _ (call (.ref 565) _) _ _ _); (k_dflt (refine' Does.ledV (word_begin_does _ _ _ _ ⟨_, _, _, _, _, _⟩ _ (isScan_mk ?hlt) ?hc ?hp _ ?hlo) ?uB ?uF ?uX ?uN ?usub ?uT ?uk ?uP ?ud ?uu ?_; walk_at "mine:l"; (case hc => assumption); (case hp => ((try dsimp only); omega)); (case hlo => assumption); k_whole; intro nxZ hZ tkZ FZ NZ hSZ; walk_at "mine:s"; (try k_sweep); (try dsimp only)))) | ((with_reducible show wpAny _ _ (call (.ref 481) _) _ _ _); (k_dflt (refine' Does.ledV (counts_does _ _ _ ⟨_, _, _, _, _, _⟩ _ (isScan_mk ?hlt)) ?uB ?uF ?uX ?uN ?usub ?uT ?uk ?uP ?ud ?uu ?_; walk_at "mine:l"; k_whole; intro nxZ hZ tkZ FZ NZ hSZ; walk_at "mine:s"; (try k_sweep); (try dsimp only)))) | ((with_reducible show wpAny _ _ (call (.ref 134) _) _ _ _); (k_dflt (refine' Does.pureV (is_word_part_does _ _ _ ?h1) ?uB ?uF ?uX ?uN ?uT ?uk ?uP ?ust ?ud ?uu ?_; walk_at "mine:p"; (case h1 => exact four_n9 (by assumption)); k_whole; intro hZ tkZ FZ NZ; (try k_sweep); (try dsimp only)))) | ((with_reducible show wpAny _ _ (call (.ref 127) _) _ _ _); (k_dflt (refine' Does.pureV (is_escape_does _ _ _ ?h1 ?h2) ?uB ?uF ?uX ?uN ?uT ?uk ?uP ?ust ?ud ?uu ?_; walk_at "mine:p"; (case h1 => exact four_n7 (by assumption)); (case h2 => exact four_n8 (by assumption)); k_whole; intro hZ tkZ FZ NZ; (try k_sweep); (try dsimp only)))) | ((with_reducible show wpAny _ _ (call (.ref 120) _) _ _ _); (k_dflt (refine' Does.pureV (has_does _ _ _ _ _ ?hf) ?uB ?uF ?uX ?uN ?uT ?uk ?uP ?ust ?ud ?uu ?_; walk_at "mine:p"; (case hf => decide +kernel); k_whole; intro hZ tkZ FZ NZ; (try k_sweep); (try dsimp only)))) | ((with_reducible show wpAny _ _ (call (.ref 271) _) _ _ _); (k_dflt (refine' Does.pureS (syntax_at_does _ _ _ _ _ ?hp ?hc) ?ucc ?uB ?uF ?uX ?uN ?uT ?uk ?uV ?uW ?ust ?ud ?uu ?_ ?_; (case ucc => assumption); (case uV => assumption); (case uW => assumption); (case uB => k_asm); (case uF => k_asm); (case uX => k_asm); (case uN => k_asm); (case uT => k_asm); (case uk => exact rfl); (case ust => exact Fr.keep (by k_asm)); (case ud => ktr_room); (case uu => ktr_units); (case hp => (have := (by assumption : Codes _).1; omega)); (case hc => assumption); k_whole; (focus (intro hZ tkZ FZ NZ hiZ hfZ SZ; (have q1Z := four_ne1 hfZ); (have q2Z := four_ne2 hfZ); (have q3Z := four_ne3 hfZ); (have q4Z := four_ne4 hfZ); (have q5Z := four_ne5 hfZ); (have q6Z := four_ne6 hfZ); refine IsSyn.use SZ ?_; intro dZ e1Z e2Z e3Z e4Z e5Z e6Z e7Z e8Z e9Z IZ; (try k_sweep); (try dsimp only))); rotate_left; (focus (intro hZ tkZ FZ NZ hiZ; first | (exfalso; refine hiZ ?_; unfold Inside; omega) | ((try k_sweep); (try dsimp only)))); rotate_left))) | ((with_reducible show wpAny _ _ (call (.ref 306) _) _ _ _); (k_dflt (refine' Does.pureV (is_quoted_does _ _ _ _ _ ?hp ?hc) ?uB ?uF ?uX ?uN ?uT ?uk ?uP ?ust ?ud ?uu ?_; walk_at "mine:p"; (case hp => (have := (by assumption : Codes _).1; omega)); (case hc => assumption); k_whole; intro hZ tkZ FZ NZ; (try k_sweep); (try dsimp only)))) | ((with_reducible show wpAny _ _ (call (.ref 622) _) _ _ _); (k_dflt (refine' Does.pureI (begin_does _ _ _) ?uB ?uF ?uX ?uN ?uT ?uk ?uP ?ust ?ud ?uu ?_; walk_at "mine:p"; k_whole; intro tZ hZ tkZ FZ NZ; (try k_sweep); (try dsimp only))))) | ((with_reducible show wpAny _ _ (compareOp .NotIn (.int _ _) (.ref _)) _ _ _); (k_here; k_dflt (refine' notin_none ?k1 ?k2 ?_; (case k1 => exact mapOf_mono (Fr.keep (by k_asm)) (by assumption)); (case k2 => assumption)))) | ((with_reducible show wpAny _ _ (compareOp .In (.int _ _) (.ref _)) _ _ _); (k_here; k_dflt (refine' in_none ?k1 ?k2 ?_; (case k1 => exact mapOf_mono (Fr.keep (by k_asm)) (by assumption)); (case k2 => assumption)))) | ((with_reducible show wpAny _ _ (exec (.While _ _ _ _) _) _ _ _); refine halt ?_) | ((with_reducible show wpAny _ _ (exec (.For _ _ _ _ _) _) _ _ _); refine halt ?_) | ((with_reducible show wpAny _ _ (eval (.Name _ _) _) _ _ _); k_here; k_dflt (refine' ld ?k1 ?k2 ?_; (case k1 => k_asm); (case k2 => first | with_reducible assumption | exact rfl | assumption); k_whole)) | walk1 | (dsimp only; with_reducible show wpAny _ _ (call (.ref _) _) _ _ _) | (dsimp only; walk1) | (leave1; (try dsimp only))))
  · have hw := (kd_w (by assumption)).mp (by assumption : kd (cAt codes (σ.place - 1)) = Str.ofString "w")
    refine hret _ _ _ _ (by assumption) (by assumption) (Kept.of_frame hg' (by assumption)) ⟨?_, rfl, fun q => absurd (hw.symm.trans (failsB.mp q).1) (by decide)⟩
    rw [stepB_count hw (by assumption)]
    exact isScan_mk (by assumption)
  · have hw := (kd_w (by assumption)).mp (by assumption : kd (cAt codes (σ.place - 1)) = Str.ofString "w")
    refine hret _ _ _ _ (by assumption) (by assumption) (Kept.of_frame hg' (by assumption)) ⟨?_, rfl, fun q => absurd (hw.symm.trans (failsB.mp q).1) (by decide)⟩
    rw [stepB_word hw (by assumption)]
    exact isScan_mk (by assumption)
  · have hw := fun q => (by assumption : ¬ kd (cAt codes (σ.place - 1)) = Str.ofString "w") ((kd_w (by assumption)).mpr q)
    rename ¬ (_ ∧ _) => hn
    refine hret _ _ _ _ (by assumption) (by assumption) (Kept.of_frame hg' (by assumption)) ⟨?_, rfl, fun q => hn (failsB.mp q)⟩
    rw [stepB_took hw]
    assumption
  · rename _ ∧ _ ∧ _ => hX
    exact hexc _ _ _ _ (by assumption) ⟨hX.1, failsB.mpr hX.2⟩
end
-- B8
noncomputable section
set_option maxRecDepth 100000

theorem stays_hide {h₀ h : Heap} {L : Addr} {m : Str → Option Value} {led : Led} (F : Fr h₀ L h m) (N : News h₀ L h led) : h₀.StaysIn (hideAll h (led.map (·.1))) := fun b o e => hideAll_get _ (F.keep b o e) fun hm => by
  obtain ⟨p, hp, q⟩ := List.mem_map.mp hm
  have := (N p hp).2.2
  rw [q, e] at this
  cases this
theorem DoesR.keepP {w : World} {d u : Nat} {P : Heap → Prop} {f : Addr} {vs : List Value} {led led' rest : Led} {R : Value → Led → Prop} {XX : Sig → Prop} (D : DoesR w d u P f vs led R XX)
    {mean : ExcName → Option Value} {mg mb : Str → Option Value} {dp un : Nat} {gd : Option (List Code)} {cn : Str} {cs : Scope} {a : Addr} {ccd : Value} {cl : List (Str × Addr)} {outer : List Env} {A₀ : Around} {base h₀ : Heap} {L : Addr} {m : Str → Option Value} {s : Shared}
    {Q E : Value → Shared → Prop} (B : Below A₀ base outer h₀) (F : Fr h₀ L s.heap m) (X : (K w.params).In h₀) (N : News h₀ L s.heap led') (sub : ∀ p ∈ led, p ∈ led') (sub2 : ∀ p ∈ rest, p ∈ led') (dis : ∀ p ∈ rest, ∀ q ∈ led, q.1 ≠ p.1) (T : Tp mean mg mb h₀) (hk : cs.kind = .function) (hP : P (hideAll s.heap (led.map (·.1)))) (hd : dp + d < recursionLimit) (hu : un + u < cLine)
    (k : ∀ r nx h' tk', Fr h₀ L h' m → News h₀ L h' nx → News h₀ L h' rest → R r nx → Q r { s with heap := h', toks := tk' })
    (k2 : ∀ e g h' tk', Thrown base (envX cn cs L a ccd cl :: outer) s.heap led e g h' → XX g → E (.ref e) { s with heap := h', toks := tk' }) :
    wpAny (model Pg w) (ktrTop dp un gd cn cs L a ccd cl outer) (call (.ref f) vs) Q E s :=
  D mean mg mb dp un gd cn cs a ccd cl outer A₀ base h₀ L m s _ Q E B F X (News.sub N sub) T hk hP (fun b o e => of_hideAll _ e) (fun p hp => hideAll_none _ (List.mem_map_of_mem hp)) hd hu (fun r nx h' tk' F' N' kp hr =>
    k r nx h' tk' F' N' (fun p hp => ⟨kp _ _ (N p (sub2 p hp)).1 fun q hq => dis p hp q hq, (N p (sub2 p hp)).2⟩) hr) k2
theorem apart_scan {w : World} {g h : Heap} {L : Addr} {led' nx : Led} {e : Ar} {x : Addr} {σ : Sc} {d : Addr} {o : Obj} (N : News g L h led') (hw : IsScan e x σ nx) (sub : ∀ q ∈ nx, q ∈ led') (he : IsEmpty w o) (hm : (d, o) ∈ led') : ∀ q ∈ nx, q.1 ≠ d := by
  obtain ⟨ep, hd⟩ := empty_es he
  intro q hq z
  have e1 := (N q (sub q hq)).1
  have e2 := (N _ hm).1
  rw [z, e2] at e1
  have e3 := Option.some.inj e1
  have e4 : q.2.data = .dict #[] ep := by rw [← e3]; exact hd
  (refine IsScan.elimE hw ?_; clear hw; intro dx hh kk hlt hnx; subst hnx)
  rcases List.mem_cons.mp hq with rfl | hq
  · cases e4
  · rcases List.mem_cons.mp hq with rfl | hq
    · cases e4
    · cases hq
theorem empty_map {w : World} {h : Heap} {d : Addr} {o : Obj} (e : h.get? d = some o) (he : IsEmpty w o) : h.MapOf (intKind Pg w) d (fun _ => none) :=
  (Heap.dictOf_iff.mpr ⟨o, e, he⟩).mapOf
/-- the mirror's answer, told of the row itself -/
noncomputable def unRes (n : Int) : Res → Res
  | .at_ p => .at_ (n + 2 - p)
  | .none => .none
  | .soon a b => .soon (n + 2 - a) (n + 2 - b)
  | .unbal a b => .unbal (n + 2 - a) (n + 2 - b)
noncomputable def bwd (codes : List Int) (at_ d : Int) (i : Bool) : Res := unRes codes.length (fwd (mir codes) (codes.length + 2 - at_) d i)
theorem mark_unM {n : Int} {σ σ1 : Sc} (h : mark σ = σ1) : mark (unM n σ) = unM n σ1 := by
  subst h
  unfold mark
  by_cases q : σ.depth = σ.least
  · rw [if_pos q, if_pos (show (unM n σ).depth = (unM n σ).least from q)]; rfl
  · rw [if_neg q, if_neg (show ¬ (unM n σ).depth = (unM n σ).least from q)]
theorem unM_unM (n : Int) (σ : Sc) : unM n (unM n σ) = σ := by
  unfold unM
  dsimp only
  congr 1 <;> omega
set_option maxHeartbeats 8000000 in
theorem backward_one_does (w : World) (codes : List Int) (e : Ar) (at_ d : Int) (ta tb : Tok) (i : Bool) (hc : Codes codes) (hp : 1 ≤ at_ ∧ at_ ≤ 1 + codes.length) :
    DoesR w 10 160 (IsAr w codes e) 579 [.ref e.v, .ref e.t, .int at_ ta, .int d tb, .bool i] [] (fun r nx => nx = [] ∧ TellsR (bwd codes at_ d i) r) (TellsX (bwd codes at_ d i)) := by
  have hc1 := hc.1
  unfold DoesR
  intro mean mg mb dp un gd cn cs a ccd cl outer A₀ base h₀ L m s g₀ Q E B F X N T hk hP st dj hd hu hret hexc
  refine wpAny_call ?_
  k_dflt (refine' enter (binds := [(Str.ofString "view", .ref e.v), (Str.ofString "table", .ref e.t), (Str.ofString "at", .int at_ ta), (Str.ofString "depth", .int d tb), (Str.ofString "is_expression", .bool i)]) ?k1 ?k2 ?k3 ?k4 ?k5 ?kA ?kF ?kK ?k6 ?k7 ?k8 ?k9 ?kB ?_ ?c2 ?c3 ?c4 ?c5; (case kA => exact rfl); (case kF => exact rfl); (case kK => assumption); (case k1 => k_asm); (case k2 => k_asm); (case k3 => k_asm); (case k4 => k_asm); (case k5 => k_asm); (case k6 => k_is); (case k7 => k_is); (case k8 => ktr_room); (case k9 => first | exact BindsTo.of_eq rfl | exact binds_K (by k_in) rfl (by k_is) rfl rfl rfl); (case c5 => decide); (case kB => exact locs rfl); (case c2 => exact rfl); (case c3 => exact rfl); (case c4 => exact rfl); k_whole; intro g' L' h' tk0 FG' F' N' B' X' T' hg'; (try dsimp only); (try k_fold); (try (refine letA ?_; intro Ak)))
  have hA9 := isAr_mono _ _ _ _ _ (stays_of st dj hg') hP
  clear hP st dj
  have hV := hA9.1
  have hT := hA9.2
  clear hA9
  refine IsView.use hV ?_
  intro dv lc hv1 hv2 kv1 kv2 tv vs IV Ll iv
  (repeat' (first | (k_unfold; (try dsimp only)) | (k_end; kc_close) | ((with_reducible show wpAny _ _ (execs (_ :: _) _) _ _ _); (with_reducible refine wpAny_execs_cons ?_); first | k_fold | (try dsimp only)) | (k_closed; first | ((with_reducible refine ite_pos ?_ ?_); (focus (k_dflt decide))) | ((with_reducible refine ite_neg ?_ ?_); (focus (k_dflt decide)))) | ((with_reducible show wpAny _ _ (call (.ref _) _) _ _ _); first | ((with_reducible show wpAny _ _ (call (.ref 572) _) _ _ _); (refine halt ?_)) | ((with_reducible show wpAny _ _ (call (.ref 460) _) _ _ _); (k_dflt (refine' Does.led (spans_to_does _ _ _ ?hcs _ _ ?hli) ?uB ?uF ?uX ?uN ?usub ?uT ?uk ?uP ?ud ?uu ?_; walk_at "mine:l"; (case hcs => assumption); (case hli => omega); k_whole; intro rZ nxZ hZ tkZ FZ NZ hrZ; (try dsimp only at hrZ); ((obtain ⟨tpZ, c1Z, c2Z, o1Z, o2Z, nZ, hr1Z, hnxZ, he1Z, he2Z, he3Z, he4Z⟩ := hrZ); subst hr1Z; subst hnxZ); (try k_sweep); (try dsimp only)))) | ((with_reducible show wpAny _ _ (call (.ref 488) _) _ _ _); (k_dflt (refine' DoesR.ledF (lost_does _ _ _ ⟨_, _, _, _, _, _⟩ _ (isScan_mk ?hlt)) ?uB ?uF ?uX ?uN ?usub ?uT ?uk ?uP ?ud ?uu ?_; walk_at "mine:l"; k_whole; walk_at "mine:x"))) | ((with_reducible show wpAny _ _ (call (.ref 622) _) _ _ _); (k_dflt (refine' Does.pureI (begin_does _ _ _) ?uB ?uF ?uX ?uN ?uT ?uk ?uP ?ust ?ud ?uu ?_; walk_at "mine:p"; k_whole; intro tZ hZ tkZ FZ NZ; (try k_sweep); (try dsimp only)))) | ((with_reducible show wpAny _ _ (call (.ref 512) _) _ _ _); (k_dflt (refine' new_scan ?uB ?uF ?uX ?uN ?uT ?u1 ?u2 ?u3 ?ud ?_; walk_at "mine:c"; (refine IsScan.elimA hSZ NZ ?_; clear hSZ NZ; intro dxZ hhZ kkZ hltZ NZ); (try dsimp only at NZ); (try k_sweep); (try dsimp only))))) | ((with_reducible show wpAny _ _ (exec (.While _ _ _ _) _) _ _ _); refine halt ?_) | ((with_reducible show wpAny _ _ (exec (.For _ _ _ _ _) _) _ _ _); refine halt ?_) | ((with_reducible show wpAny _ _ (eval (.Name _ _) _) _ _ _); k_here; k_dflt (refine' ld ?k1 ?k2 ?_; (case k1 => k_asm); (case k2 => first | with_reducible assumption | exact rfl | assumption); k_whole)) | walk1 | (dsimp only; with_reducible show wpAny _ _ (call (.ref _) _) _ _ _) | (dsimp only; walk1) | (leave1; (try dsimp only))))
  refine unhalt ?_
  refine' While_start (fun n m₁ news₁ => m₁ (Str.ofString "view") = some (.ref e.v) ∧
      ∃ (x c1 c2 : Addr) (o1 : Obj) (σ : Sc) (nxs : Led), m₁ (Str.ofString "scan") = some (.ref x) ∧ m₁ (Str.ofString "comments") = some (.ref c1) ∧ m₁ (Str.ofString "strings") = some (.ref c2) ∧ 1 ≤ σ.place ∧ σ.place ≤ 1 + codes.length ∧ σ.done = false ∧
        runF (mir codes) n (unM codes.length σ) = fwd (mir codes) (codes.length + 2 - at_) d i ∧ σ.place - 1 < n ∧ IsScan e x σ nxs ∧ news₁ = nxs ++ [(c1, o1)] ∧ (c1 == sysModules) = false ∧ IsEmpty w o1) (n₀ := 200) ?iF ?iS ?_
  case iF => assumption
  case iS =>
    refine' ⟨_ ++ [(_, ?o1)], ?N, by rfl, _, _, _, _, ⟨at_, d, least0 d, at_, i, false⟩, _, by rfl, by rfl, by rfl, hp.1, hp.2, rfl, rfl, by dsimp only; omega, isScan_mk (by assumption), rfl, ?e1, ?e2⟩
    case N => exact News.sub (by assumption) (by (first | (refine sub1 ?_; k_mem) | (refine sub2 ?_ ?_; k_mem; k_mem) | (refine sub3 ?_ ?_ ?_; k_mem; k_mem; k_mem) | ((repeat (refine' List.forall_mem_cons.mpr ⟨?_, ?_⟩; focus k_mem)); exact List.forall_mem_nil _)))
    case e1 => assumption
    case e2 => assumption
  intro n m₁ news₁ h₁ tk₁ F₁ N₁ hI9
  (try k_fold)
  (refine cps ?_; intro G9 out9)
  obtain ⟨a2, x, c1, c2, o1, σ, nxs, a1, a3, a4, b1, b2, b3, b4, b5, b6, rfl, b7, b8⟩ := hI9
  (refine out9 ?_; clear out9 G9)
  have hap := apart_scan N₁ b6 (fun q hq => List.mem_append_left _ hq) b8 (d := c1) (by simp)
  obtain ⟨k, rfl⟩ : ∃ k, n = k + 1 := ⟨n - 1, by omega⟩
  (refine IsScan.elimE b6 ?_; clear b6; intro dx hh kk hlt hnx; subst hnx)
  simp only [List.cons_append, List.nil_append] at N₁
  have hx : @Ne Nat x c1 := hap _ (.head _)
  have hdx : @Ne Nat dx c1 := hap _ (.tail _ (.head _))
  (repeat' (first | (k_unfold; (try dsimp only)) | (k_end; kc_close) | ((with_reducible show wpAny _ _ (execs (_ :: _) _) _ _ _); (with_reducible refine wpAny_execs_cons ?_); first | k_fold | (try dsimp only)) | (k_closed; first | ((with_reducible refine ite_pos ?_ ?_); (focus (k_dflt decide))) | ((with_reducible refine ite_neg ?_ ?_); (focus (k_dflt decide)))) | ((with_reducible show wpAny _ _ (call (.ref _) _) _ _ _); first | ((with_reducible show wpAny _ _ (call (.ref 572) _) _ _ _); (refine halt ?_)) | ((with_reducible show wpAny _ _ (call (.ref 460) _) _ _ _); (k_dflt (refine' Does.led (spans_to_does _ _ _ ?hcs _ _ ?hli) ?uB ?uF ?uX ?uN ?usub ?uT ?uk ?uP ?ud ?uu ?_; walk_at "mine:l"; (case hcs => assumption); (case hli => omega); k_whole; intro rZ nxZ hZ tkZ FZ NZ hrZ; (try dsimp only at hrZ); ((obtain ⟨tpZ, c1Z, c2Z, o1Z, o2Z, nZ, hr1Z, hnxZ, he1Z, he2Z, he3Z, he4Z⟩ := hrZ); subst hr1Z; subst hnxZ); (try k_sweep); (try dsimp only)))) | ((with_reducible show wpAny _ _ (call (.ref 488) _) _ _ _); (k_dflt (refine' DoesR.ledF (lost_does _ _ _ ⟨_, _, _, _, _, _⟩ _ (isScan_mk ?hlt)) ?uB ?uF ?uX ?uN ?usub ?uT ?uk ?uP ?ud ?uu ?_; walk_at "mine:l"; k_whole; walk_at "mine:x"))) | ((with_reducible show wpAny _ _ (call (.ref 622) _) _ _ _); (k_dflt (refine' Does.pureI (begin_does _ _ _) ?uB ?uF ?uX ?uN ?uT ?uk ?uP ?ust ?ud ?uu ?_; walk_at "mine:p"; k_whole; intro tZ hZ tkZ FZ NZ; (try k_sweep); (try dsimp only)))) | ((with_reducible show wpAny _ _ (call (.ref 512) _) _ _ _); (k_dflt (refine' new_scan ?uB ?uF ?uX ?uN ?uT ?u1 ?u2 ?u3 ?ud ?_; walk_at "mine:c"; (refine IsScan.elimA hSZ NZ ?_; clear hSZ NZ; intro dxZ hhZ kkZ hltZ NZ); (try dsimp only at NZ); (try k_sweep); (try dsimp only))))) | ((with_reducible show wpAny _ _ (exec (.While _ _ _ _) _) _ _ _); refine halt ?_) | ((with_reducible show wpAny _ _ (exec (.For _ _ _ _ _) _) _ _ _); refine halt ?_) | ((with_reducible show wpAny _ _ (eval (.Name _ _) _) _ _ _); k_here; k_dflt (refine' ld ?k1 ?k2 ?_; (case k1 => k_asm); (case k2 => first | with_reducible assumption | exact rfl | assumption); k_whole)) | walk1 | (dsimp only; with_reducible show wpAny _ _ (call (.ref _) _) _ _ _) | (dsimp only; walk1) | (leave1; (try dsimp only))))
  · refine unhalt ?_
    rename News g' L' _ _ => N5
    rename Fr g' L' _ _ => F5
    have hmk := mark_yes (by assumption : σ.depth = σ.least)
    have hlen : (unM codes.length σ).place < 1 + ((mir codes).length : Int) := by rw [mir_len, unM_place]; omega
    k_dflt (refine' DoesR.keepP (rest := [(c1, o1)]) (step_backward_does w codes e x ⟨_, _, _, _, _, _⟩ _ (isScan_mk ?hlt) hc ?hp c1 c2 b7) ?uB ?uF ?uX ?uN ?usub ?usub2 ?udis ?uT ?uk ?uP ?ud ?uu ?uK ?uE; (case uB => k_asm); (case uF => k_asm); (case uX => k_asm); (case uN => exact N5); (case usub => exact (by (first | (refine sub1 ?_; k_mem) | (refine sub2 ?_ ?_; k_mem; k_mem) | (refine sub3 ?_ ?_ ?_; k_mem; k_mem; k_mem) | ((repeat (refine' List.forall_mem_cons.mpr ⟨?_, ?_⟩; focus k_mem)); exact List.forall_mem_nil _)))); (case hlt => assumption); (case usub2 => exact (by (first | (refine sub1 ?_; k_mem) | (refine sub2 ?_ ?_; k_mem; k_mem) | (refine sub3 ?_ ?_ ?_; k_mem; k_mem; k_mem) | ((repeat (refine' List.forall_mem_cons.mpr ⟨?_, ?_⟩; focus k_mem)); exact List.forall_mem_nil _)))); (case uT => k_asm); (case uk => exact rfl); (case ud => ktr_room); (case uu => ktr_units); (case hp => ((try dsimp only); omega)))
    case udis =>
      intro q hq r hr
      rcases List.mem_cons.mp hq with rfl | hq
      · rcases List.mem_cons.mp hr with rfl | hr
        · exact hx
        · rcases List.mem_cons.mp hr with rfl | hr
          · exact hdx
          · cases hr
      · cases hq
    case uP =>
      refine ⟨isAr_mono _ _ _ _ _ (stays_hide F5 (News.sub N5 (by (first | (refine sub1 ?_; k_mem) | (refine sub2 ?_ ?_; k_mem; k_mem) | (refine sub3 ?_ ?_ ?_; k_mem; k_mem; k_mem) | ((repeat (refine' List.forall_mem_cons.mpr ⟨?_, ?_⟩; focus k_mem)); exact List.forall_mem_nil _))))) ⟨hV, hT⟩, empty_map (hideAll_get _ (N5 (c1, o1) (by k_mem)).1 fun hm => ?_) b8⟩
      rcases List.mem_cons.mp hm with q | hm
      · exact hx q.symm
      · rcases List.mem_cons.mp hm with q | hm
        · exact hdx q.symm
        · cases hm
    case uE =>
      intro e5 g5 h5 tk5 TH5 hX5
      dsimp only at hX5
      show wpAny _ _ (leaving _ _) _ _ _
      refine leave_onD rfl rfl F5 (News.sub N5 (by (first | (refine sub1 ?_; k_mem) | (refine sub2 ?_ ?_; k_mem; k_mem) | (refine sub3 ?_ ?_ ?_; k_mem; k_mem; k_mem) | ((repeat (refine' List.forall_mem_cons.mpr ⟨?_, ?_⟩; focus k_mem)); exact List.forall_mem_nil _)))) TH5 hg' (hout_of B N rfl) ?_
      intro h6 TH6
      refine hexc _ _ _ _ TH6 ?_
      rw [run_soon hlen (mark_unM hmk) hX5.2] at b4
      unfold bwd
      rw [← b4]
      show g5 = _
      rw [hX5.1]
      unfold unM
      dsimp only
      congr 1 <;> omega
    case uK =>
      intro r nx h2 tk2 F2 N2 N3 hR
      obtain ⟨hS, rfl, hnF⟩ := hR
      have N4 := news_append N2 N3
      clear N2 N3
      clear hlt
      (refine IsScan.elimE hS ?_; clear hS; intro dx hh kk hlt hnx; subst hnx)
      simp only [List.cons_append, List.nil_append] at N4
      k_sweep
      dsimp only
      (repeat' (first | (k_unfold; (try dsimp only)) | (k_end; kc_close) | ((with_reducible show wpAny _ _ (execs (_ :: _) _) _ _ _); (with_reducible refine wpAny_execs_cons ?_); first | k_fold | (try dsimp only)) | (k_closed; first | ((with_reducible refine ite_pos ?_ ?_); (focus (k_dflt decide))) | ((with_reducible refine ite_neg ?_ ?_); (focus (k_dflt decide)))) | ((with_reducible show wpAny _ _ (call (.ref _) _) _ _ _); first | ((with_reducible show wpAny _ _ (call (.ref 572) _) _ _ _); (refine halt ?_)) | ((with_reducible show wpAny _ _ (call (.ref 460) _) _ _ _); (k_dflt (refine' Does.led (spans_to_does _ _ _ ?hcs _ _ ?hli) ?uB ?uF ?uX ?uN ?usub ?uT ?uk ?uP ?ud ?uu ?_; walk_at "mine:l"; (case hcs => assumption); (case hli => omega); k_whole; intro rZ nxZ hZ tkZ FZ NZ hrZ; (try dsimp only at hrZ); ((obtain ⟨tpZ, c1Z, c2Z, o1Z, o2Z, nZ, hr1Z, hnxZ, he1Z, he2Z, he3Z, he4Z⟩ := hrZ); subst hr1Z; subst hnxZ); (try k_sweep); (try dsimp only)))) | ((with_reducible show wpAny _ _ (call (.ref 488) _) _ _ _); (k_dflt (refine' DoesR.ledF (lost_does _ _ _ ⟨_, _, _, _, _, _⟩ _ (isScan_mk ?hlt)) ?uB ?uF ?uX ?uN ?usub ?uT ?uk ?uP ?ud ?uu ?_; walk_at "mine:l"; k_whole; walk_at "mine:x"))) | ((with_reducible show wpAny _ _ (call (.ref 622) _) _ _ _); (k_dflt (refine' Does.pureI (begin_does _ _ _) ?uB ?uF ?uX ?uN ?uT ?uk ?uP ?ust ?ud ?uu ?_; walk_at "mine:p"; k_whole; intro tZ hZ tkZ FZ NZ; (try k_sweep); (try dsimp only)))) | ((with_reducible show wpAny _ _ (call (.ref 512) _) _ _ _); (k_dflt (refine' new_scan ?uB ?uF ?uX ?uN ?uT ?u1 ?u2 ?u3 ?ud ?_; walk_at "mine:c"; (refine IsScan.elimA hSZ NZ ?_; clear hSZ NZ; intro dxZ hhZ kkZ hltZ NZ); (try dsimp only at NZ); (try k_sweep); (try dsimp only))))) | ((with_reducible show wpAny _ _ (exec (.While _ _ _ _) _) _ _ _); refine halt ?_) | ((with_reducible show wpAny _ _ (exec (.For _ _ _ _ _) _) _ _ _); refine halt ?_) | ((with_reducible show wpAny _ _ (eval (.Name _ _) _) _ _ _); k_here; k_dflt (refine' ld ?k1 ?k2 ?_; (case k1 => k_asm); (case k2 => first | with_reducible assumption | exact rfl | assumption); k_whole)) | walk1 | (dsimp only; with_reducible show wpAny _ _ (call (.ref _) _) _ _ _) | (dsimp only; walk1) | (leave1; (try dsimp only))))
      · rename _ = true => hdn
        rw [run_at hlen (mark_unM hmk) hnF hdn] at b4
        refine hret _ [] _ _ (by assumption) News.nil (Kept.of_frame hg' (by assumption)) ⟨rfl, ?_⟩
        unfold bwd
        rw [← b4]
        exact IsI.of rfl
      · rename _ = false => hdn
        have hdn2 : (stepF (mir codes) (unM codes.length _)).done = false := hdn
        rw [run_next hlen (mark_unM hmk) hnF hdn2] at b4
        have hpl := step_place hdn2
        (dsimp only [WhileStep2]; refine' ⟨_, _, _, _, k, rfl, ?wF, ?wN, ?wlt, ?_⟩; (case wF => assumption); (case wN => assumption); (case wlt => omega))
        refine ⟨a2, x, c1, c2, o1, unM codes.length (stepF (mir codes) (unM codes.length _)), _, a1, a3, a4, ?_, ?_, hdn2, by rw [unM_unM]; exact b4, ?_, isScan_mk (by assumption), rfl, b7, b8⟩
        all_goals (rw [unM_place, hpl, unM_place]; dsimp only; omega)
  · refine unhalt ?_
    rename News g' L' _ _ => N5
    rename Fr g' L' _ _ => F5
    have hmk := mark_no (by assumption : σ.depth ≠ σ.least)
    have hlen : (unM codes.length σ).place < 1 + ((mir codes).length : Int) := by rw [mir_len, unM_place]; omega
    k_dflt (refine' DoesR.keepP (rest := [(c1, o1)]) (step_backward_does w codes e x ⟨_, _, _, _, _, _⟩ _ (isScan_mk ?hlt) hc ?hp c1 c2 b7) ?uB ?uF ?uX ?uN ?usub ?usub2 ?udis ?uT ?uk ?uP ?ud ?uu ?uK ?uE; (case uB => k_asm); (case uF => k_asm); (case uX => k_asm); (case uN => exact N5); (case usub => exact (by (first | (refine sub1 ?_; k_mem) | (refine sub2 ?_ ?_; k_mem; k_mem) | (refine sub3 ?_ ?_ ?_; k_mem; k_mem; k_mem) | ((repeat (refine' List.forall_mem_cons.mpr ⟨?_, ?_⟩; focus k_mem)); exact List.forall_mem_nil _)))); (case hlt => assumption); (case usub2 => exact (by (first | (refine sub1 ?_; k_mem) | (refine sub2 ?_ ?_; k_mem; k_mem) | (refine sub3 ?_ ?_ ?_; k_mem; k_mem; k_mem) | ((repeat (refine' List.forall_mem_cons.mpr ⟨?_, ?_⟩; focus k_mem)); exact List.forall_mem_nil _)))); (case uT => k_asm); (case uk => exact rfl); (case ud => ktr_room); (case uu => ktr_units); (case hp => ((try dsimp only); omega)))
    case udis =>
      intro q hq r hr
      rcases List.mem_cons.mp hq with rfl | hq
      · rcases List.mem_cons.mp hr with rfl | hr
        · exact hx
        · rcases List.mem_cons.mp hr with rfl | hr
          · exact hdx
          · cases hr
      · cases hq
    case uP =>
      refine ⟨isAr_mono _ _ _ _ _ (stays_hide F5 (News.sub N5 (by (first | (refine sub1 ?_; k_mem) | (refine sub2 ?_ ?_; k_mem; k_mem) | (refine sub3 ?_ ?_ ?_; k_mem; k_mem; k_mem) | ((repeat (refine' List.forall_mem_cons.mpr ⟨?_, ?_⟩; focus k_mem)); exact List.forall_mem_nil _))))) ⟨hV, hT⟩, empty_map (hideAll_get _ (N5 (c1, o1) (by k_mem)).1 fun hm => ?_) b8⟩
      rcases List.mem_cons.mp hm with q | hm
      · exact hx q.symm
      · rcases List.mem_cons.mp hm with q | hm
        · exact hdx q.symm
        · cases hm
    case uE =>
      intro e5 g5 h5 tk5 TH5 hX5
      dsimp only at hX5
      show wpAny _ _ (leaving _ _) _ _ _
      refine leave_onD rfl rfl F5 (News.sub N5 (by (first | (refine sub1 ?_; k_mem) | (refine sub2 ?_ ?_; k_mem; k_mem) | (refine sub3 ?_ ?_ ?_; k_mem; k_mem; k_mem) | ((repeat (refine' List.forall_mem_cons.mpr ⟨?_, ?_⟩; focus k_mem)); exact List.forall_mem_nil _)))) TH5 hg' (hout_of B N rfl) ?_
      intro h6 TH6
      refine hexc _ _ _ _ TH6 ?_
      rw [run_soon hlen (mark_unM hmk) hX5.2] at b4
      unfold bwd
      rw [← b4]
      show g5 = _
      rw [hX5.1]
      unfold unM
      dsimp only
      congr 1 <;> omega
    case uK =>
      intro r nx h2 tk2 F2 N2 N3 hR
      obtain ⟨hS, rfl, hnF⟩ := hR
      have N4 := news_append N2 N3
      clear N2 N3
      clear hlt
      (refine IsScan.elimE hS ?_; clear hS; intro dx hh kk hlt hnx; subst hnx)
      simp only [List.cons_append, List.nil_append] at N4
      k_sweep
      dsimp only
      (repeat' (first | (k_unfold; (try dsimp only)) | (k_end; kc_close) | ((with_reducible show wpAny _ _ (execs (_ :: _) _) _ _ _); (with_reducible refine wpAny_execs_cons ?_); first | k_fold | (try dsimp only)) | (k_closed; first | ((with_reducible refine ite_pos ?_ ?_); (focus (k_dflt decide))) | ((with_reducible refine ite_neg ?_ ?_); (focus (k_dflt decide)))) | ((with_reducible show wpAny _ _ (call (.ref _) _) _ _ _); first | ((with_reducible show wpAny _ _ (call (.ref 572) _) _ _ _); (refine halt ?_)) | ((with_reducible show wpAny _ _ (call (.ref 460) _) _ _ _); (k_dflt (refine' Does.led (spans_to_does _ _ _ ?hcs _ _ ?hli) ?uB ?uF ?uX ?uN ?usub ?uT ?uk ?uP ?ud ?uu ?_; walk_at "mine:l"; (case hcs => assumption); (case hli => omega); k_whole; intro rZ nxZ hZ tkZ FZ NZ hrZ; (try dsimp only at hrZ); ((obtain ⟨tpZ, c1Z, c2Z, o1Z, o2Z, nZ, hr1Z, hnxZ, he1Z, he2Z, he3Z, he4Z⟩ := hrZ); subst hr1Z; subst hnxZ); (try k_sweep); (try dsimp only)))) | ((with_reducible show wpAny _ _ (call (.ref 488) _) _ _ _); (k_dflt (refine' DoesR.ledF (lost_does _ _ _ ⟨_, _, _, _, _, _⟩ _ (isScan_mk ?hlt)) ?uB ?uF ?uX ?uN ?usub ?uT ?uk ?uP ?ud ?uu ?_; walk_at "mine:l"; k_whole; walk_at "mine:x"))) | ((with_reducible show wpAny _ _ (call (.ref 622) _) _ _ _); (k_dflt (refine' Does.pureI (begin_does _ _ _) ?uB ?uF ?uX ?uN ?uT ?uk ?uP ?ust ?ud ?uu ?_; walk_at "mine:p"; k_whole; intro tZ hZ tkZ FZ NZ; (try k_sweep); (try dsimp only)))) | ((with_reducible show wpAny _ _ (call (.ref 512) _) _ _ _); (k_dflt (refine' new_scan ?uB ?uF ?uX ?uN ?uT ?u1 ?u2 ?u3 ?ud ?_; walk_at "mine:c"; (refine IsScan.elimA hSZ NZ ?_; clear hSZ NZ; intro dxZ hhZ kkZ hltZ NZ); (try dsimp only at NZ); (try k_sweep); (try dsimp only))))) | ((with_reducible show wpAny _ _ (exec (.While _ _ _ _) _) _ _ _); refine halt ?_) | ((with_reducible show wpAny _ _ (exec (.For _ _ _ _ _) _) _ _ _); refine halt ?_) | ((with_reducible show wpAny _ _ (eval (.Name _ _) _) _ _ _); k_here; k_dflt (refine' ld ?k1 ?k2 ?_; (case k1 => k_asm); (case k2 => first | with_reducible assumption | exact rfl | assumption); k_whole)) | walk1 | (dsimp only; with_reducible show wpAny _ _ (call (.ref _) _) _ _ _) | (dsimp only; walk1) | (leave1; (try dsimp only))))
      · rename _ = true => hdn
        rw [run_at hlen (mark_unM hmk) hnF hdn] at b4
        refine hret _ [] _ _ (by assumption) News.nil (Kept.of_frame hg' (by assumption)) ⟨rfl, ?_⟩
        unfold bwd
        rw [← b4]
        exact IsI.of rfl
      · rename _ = false => hdn
        have hdn2 : (stepF (mir codes) (unM codes.length _)).done = false := hdn
        rw [run_next hlen (mark_unM hmk) hnF hdn2] at b4
        have hpl := step_place hdn2
        (dsimp only [WhileStep2]; refine' ⟨_, _, _, _, k, rfl, ?wF, ?wN, ?wlt, ?_⟩; (case wF => assumption); (case wN => assumption); (case wlt => omega))
        refine ⟨a2, x, c1, c2, o1, unM codes.length (stepF (mir codes) (unM codes.length _)), _, a1, a3, a4, ?_, ?_, hdn2, by rw [unM_unM]; exact b4, ?_, isScan_mk (by assumption), rfl, b7, b8⟩
        all_goals (rw [unM_place, hpl, unM_place]; dsimp only; omega)
  · rw [run_unbal (by rw [mir_len, unM_place]; omega) (by assumption)] at b4
    refine hexc _ _ _ _ (by assumption) ?_
    rename _ = Sig.mk _ _ _ => hX
    unfold bwd
    rw [← b4]
    show _ = _
    rw [hX]
    unfold unM
    dsimp only
    congr 1 <;> omega
  · rw [run_none (by rw [mir_len, unM_place]; omega) (by assumption)] at b4
    refine hret _ [] _ _ (by assumption) News.nil (Kept.of_frame hg' (by assumption)) ⟨rfl, ?_⟩
    unfold bwd
    rw [← b4]
    exact rfl
end
-- B9
noncomputable section
set_option maxRecDepth 100000

noncomputable def fwdN (codes : List Int) (i : Bool) : Nat → Int → Int → Res
  | 0, a, _ => .at_ a
  | k + 1, a, d => match fwd codes a d i with
    | .at_ p => fwdN codes i k p 0
    | r => r
noncomputable def bwdN (codes : List Int) (i : Bool) : Nat → Int → Int → Res
  | 0, a, _ => .at_ a
  | k + 1, a, d => match bwd codes a d i with
    | .at_ p => bwdN codes i k p 0
    | r => r
noncomputable def scanR (codes : List Int) (a count d : Int) (i : Bool) : Res := if 0 ≤ count then fwdN codes i count.toNat a d else bwdN codes i (0 - count).toNat a d
theorem inside_97 {codes : List Int} {p : Int} (h : cAt codes p = 97) : 1 ≤ p ∧ p < 1 + (codes.length : Int) := by
  by_cases q : 1 ≤ p ∧ p < 1 + (codes.length : Int)
  · exact q
  · unfold cAt at h
    rw [if_neg q] at h
    cases h
theorem wendN_bound {codes : List Int} : ∀ (k : Nat) {p : Int}, 1 ≤ p → p ≤ 1 + codes.length → 1 ≤ wendN codes k p ∧ wendN codes k p ≤ 1 + codes.length
  | 0, p, h1, h2 => ⟨h1, h2⟩
  | k + 1, p, h1, h2 => by
    unfold wendN
    split
    · rename_i h
      have := inside_97 h
      exact wendN_bound k (by omega) (by omega)
    · exact ⟨h1, h2⟩
theorem step_bound {codes : List Int} {σ : Sc} (h1 : 1 ≤ σ.place) (h2 : σ.place < 1 + (codes.length : Int)) : 1 ≤ (stepF codes σ).place ∧ (stepF codes σ).place ≤ 1 + codes.length := by
  unfold stepF
  split
  · split
    · exact wendN_bound 100 h1 (by omega)
    · dsimp only; omega
  · unfold took
    split
    · dsimp only; omega
    · split <;> (dsimp only; omega)
theorem run_bound {codes : List Int} : ∀ (k : Nat) {σ : Sc} {p : Int}, 1 ≤ σ.place → σ.place ≤ 1 + codes.length → runF codes k σ = .at_ p → 1 ≤ p ∧ p ≤ 1 + codes.length
  | 0, σ, p, _, _, h => by cases h
  | k + 1, σ, p, h1, h2, h => by
    unfold runF at h
    split at h
    · rename_i h3
      split at h
      · cases h
      · have hb := step_bound (codes := codes) (σ := mark σ) (by rw [mark_place]; exact h1) (by rw [mark_place]; exact h3)
        split at h
        · cases h
          exact hb
        · exact run_bound k hb.1 hb.2 h
    · split at h <;> cases h
theorem fwd_bound {codes : List Int} {a d p : Int} {i : Bool} (h1 : 1 ≤ a) (h2 : a ≤ 1 + codes.length) (h : fwd codes a d i = .at_ p) : 1 ≤ p ∧ p ≤ 1 + codes.length := run_bound (codes := codes) 200 (σ := ⟨a, d, least0 d, a, i, false⟩) h1 h2 h
theorem bwd_bound {codes : List Int} {a d p : Int} {i : Bool} (h1 : 1 ≤ a) (h2 : a ≤ 1 + codes.length) (h : bwd codes a d i = .at_ p) : 1 ≤ p ∧ p ≤ 1 + codes.length := by
  unfold bwd at h
  cases q : fwd (mir codes) (codes.length + 2 - a) d i with
  | at_ r =>
    rw [q] at h
    have := fwd_bound (codes := mir codes) (by omega) (by rw [mir_len]; omega) q
    rw [mir_len] at this
    cases h
    omega
  | none => rw [q] at h; cases h
  | soon _ _ => rw [q] at h; cases h
  | unbal _ _ => rw [q] at h; cases h
noncomputable def AtIs (N : Nat → Int → Int → Res) (len : Int) (res : Res) (k : Nat) (av : Value) (d : Int) : Prop := (∃ a t, av = .int a t ∧ (1 ≤ a ∧ a ≤ 1 + len) ∧ N k a d = res) ∨ (av = .none ∧ res = .none)
set_option maxHeartbeats 8000000 in
theorem scan_by_does (w : World) (codes : List Int) (e : Ar) (at_ count d : Int) (ta tb tc : Tok) (i : Bool) (hc : Codes codes) (hp : 1 ≤ at_ ∧ at_ ≤ 1 + codes.length) :
    DoesR w 12 200 (IsAr w codes e) 586 [.ref e.v, .ref e.t, .int at_ ta, .int count tb, .int d tc, .bool i] [] (fun r nx => nx = [] ∧ TellsR (scanR codes at_ count d i) r) (TellsX (scanR codes at_ count d i)) := by
  have hc1 := hc.1
  unfold DoesR
  intro mean mg mb dp un gd cn cs a ccd cl outer A₀ base h₀ L m s g₀ Q E B F X N T hk hP st dj hd hu hret hexc
  refine wpAny_call ?_
  k_dflt (refine' enter (binds := [(Str.ofString "view", .ref e.v), (Str.ofString "table", .ref e.t), (Str.ofString "at", .int at_ ta), (Str.ofString "count", .int count tb), (Str.ofString "depth", .int d tc), (Str.ofString "is_expression", .bool i)]) ?k1 ?k2 ?k3 ?k4 ?k5 ?kA ?kF ?kK ?k6 ?k7 ?k8 ?k9 ?kB ?_ ?c2 ?c3 ?c4 ?c5; (case kA => exact rfl); (case kF => exact rfl); (case kK => assumption); (case k1 => k_asm); (case k2 => k_asm); (case k3 => k_asm); (case k4 => k_asm); (case k5 => k_asm); (case k6 => k_is); (case k7 => k_is); (case k8 => ktr_room); (case k9 => first | exact BindsTo.of_eq rfl | exact binds_K (by k_in) rfl (by k_is) rfl rfl rfl); (case c5 => decide); (case kB => exact locs rfl); (case c2 => exact rfl); (case c3 => exact rfl); (case c4 => exact rfl); k_whole; intro g' L' h' tk0 FG' F' N' B' X' T' hg'; (try dsimp only); (try k_fold); (try (refine letA ?_; intro Ak)))
  have hA9 := isAr_mono _ _ _ _ _ (stays_of st dj hg') hP
  clear hP st dj
  have hV := hA9.1
  have hT := hA9.2
  clear hA9
  refine IsView.use hV ?_
  intro dv lc hv1 hv2 kv1 kv2 tv vs IV Ll iv
  by_cases hcount : 0 ≤ count
  · have hres : scanR codes at_ count d i = fwdN codes i count.toNat at_ d := by unfold scanR; rw [if_pos hcount]
    rw [hres] at hret hexc
    (repeat' (first | (k_unfold; (try dsimp only)) | (k_end; kc_close) | ((with_reducible show wpAny _ _ (execs (_ :: _) _) _ _ _); (with_reducible refine wpAny_execs_cons ?_); first | k_fold | (try dsimp only)) | (k_closed; first | ((with_reducible refine ite_pos ?_ ?_); (focus (k_dflt decide))) | ((with_reducible refine ite_neg ?_ ?_); (focus (k_dflt decide)))) | ((with_reducible show wpAny _ _ (call (.ref _) _) _ _ _); first | ((with_reducible show wpAny _ _ (call (.ref 579) _) _ _ _); (k_dflt (refine' DoesR.ledP (backward_one_does _ _ _ _ _ _ _ _ ?hc ?hp) ?uB ?uF ?uX ?uN ?usub ?uT ?uk ?uP ?ud ?uu ?_ ?_; walk_at "mine:l"; (case hc => assumption); (case hp => assumption); k_whole; rotate_left; walk_at "mine:x"; rotate_left; (focus (intro rZ hZ tkZ FZ NZ hTZ; (try k_sweep); (try dsimp only)))))) | ((with_reducible show wpAny _ _ (call (.ref 551) _) _ _ _); (k_dflt (refine' DoesR.ledP (forward_one_does _ _ _ _ _ _ _ _ ?hc ?hp) ?uB ?uF ?uX ?uN ?usub ?uT ?uk ?uP ?ud ?uu ?_ ?_; walk_at "mine:l"; (case hc => assumption); (case hp => assumption); k_whole; rotate_left; walk_at "mine:x"; rotate_left; (focus (intro rZ hZ tkZ FZ NZ hTZ; (try k_sweep); (try dsimp only))))))) | ((with_reducible show wpAny _ _ (exec (.While _ _ _ _) _) _ _ _); refine halt ?_) | ((with_reducible show wpAny _ _ (exec (.For _ _ _ _ _) _) _ _ _); refine halt ?_) | ((with_reducible show wpAny _ _ (eval (.Name _ _) _) _ _ _); k_here; k_dflt (refine' ld ?k1 ?k2 ?_; (case k1 => k_asm); (case k2 => first | with_reducible assumption | exact rfl | assumption); k_whole)) | walk1 | (dsimp only; with_reducible show wpAny _ _ (call (.ref _) _) _ _ _) | (dsimp only; walk1) | (leave1; (try dsimp only))))
    refine unhalt ?_
    refine' While_start (fun n m₁ news₁ => news₁ = [] ∧ m₁ (Str.ofString "view") = some (.ref e.v) ∧ m₁ (Str.ofString "table") = some (.ref e.t) ∧ m₁ (Str.ofString "is_expression") = some (.bool i) ∧
      ∃ (av : Value) (d' : Int) (td tk : Tok), m₁ (Str.ofString "at") = some av ∧ m₁ (Str.ofString "depth") = some (.int d' td) ∧ m₁ (Str.ofString "count") = some (.int n tk) ∧ AtIs (fwdN codes i) codes.length (fwdN codes i count.toNat at_ d) n av d') (n₀ := count.toNat) ?iF ?iS ?_
    case iF => assumption
    case iS => exact ⟨[], News.nil, rfl, by rfl, by rfl, by rfl, _, _, _, _, by rfl, by rfl, by (have : (count.toNat : Int) = count := Int.toNat_of_nonneg hcount); rw [this]; rfl, .inl ⟨_, _, rfl, hp, rfl⟩⟩
    intro n m₁ news₁ h₁ tk₁ F₁ N₁ hI9
    (try k_fold)
    (refine cps ?_; intro G9 out9)
    obtain ⟨rfl, a1, a2, a3, av, d', td, tk, a4, a5, a6, hA⟩ := hI9
    (refine out9 ?_; clear out9 G9)
    rcases hA with ⟨a, t, rfl, b1, b2⟩ | ⟨rfl, b2⟩
    · (repeat' (first | (k_unfold; (try dsimp only)) | (k_end; kc_close) | ((with_reducible show wpAny _ _ (execs (_ :: _) _) _ _ _); (with_reducible refine wpAny_execs_cons ?_); first | k_fold | (try dsimp only)) | (k_closed; first | ((with_reducible refine ite_pos ?_ ?_); (focus (k_dflt decide))) | ((with_reducible refine ite_neg ?_ ?_); (focus (k_dflt decide)))) | ((with_reducible show wpAny _ _ (call (.ref _) _) _ _ _); first | ((with_reducible show wpAny _ _ (call (.ref 579) _) _ _ _); (k_dflt (refine' DoesR.ledP (backward_one_does _ _ _ _ _ _ _ _ ?hc ?hp) ?uB ?uF ?uX ?uN ?usub ?uT ?uk ?uP ?ud ?uu ?_ ?_; walk_at "mine:l"; (case hc => assumption); (case hp => assumption); k_whole; rotate_left; walk_at "mine:x"; rotate_left; (focus (intro rZ hZ tkZ FZ NZ hTZ; (try k_sweep); (try dsimp only)))))) | ((with_reducible show wpAny _ _ (call (.ref 551) _) _ _ _); (k_dflt (refine' DoesR.ledP (forward_one_does _ _ _ _ _ _ _ _ ?hc ?hp) ?uB ?uF ?uX ?uN ?usub ?uT ?uk ?uP ?ud ?uu ?_ ?_; walk_at "mine:l"; (case hc => assumption); (case hp => assumption); k_whole; rotate_left; walk_at "mine:x"; rotate_left; (focus (intro rZ hZ tkZ FZ NZ hTZ; (try k_sweep); (try dsimp only))))))) | ((with_reducible show wpAny _ _ (exec (.While _ _ _ _) _) _ _ _); refine halt ?_) | ((with_reducible show wpAny _ _ (exec (.For _ _ _ _ _) _) _ _ _); refine halt ?_) | ((with_reducible show wpAny _ _ (eval (.Name _ _) _) _ _ _); k_here; k_dflt (refine' ld ?k1 ?k2 ?_; (case k1 => k_asm); (case k2 => first | with_reducible assumption | exact rfl | assumption); k_whole)) | walk1 | (dsimp only; with_reducible show wpAny _ _ (call (.ref _) _) _ _ _) | (dsimp only; walk1) | (leave1; (try dsimp only))))
      · rename TellsR _ _ => hT
        obtain ⟨k, rfl⟩ : ∃ k, n = k + 1 := ⟨n - 1, by omega⟩
        cases q : fwd codes a d' i with
        | at_ p =>
          rw [fwdN, q] at b2
          rw [q] at hT
          obtain ⟨tp, rfl⟩ := hT
          (dsimp only [WhileStep2]; refine' ⟨_, _, _, _, k, rfl, ?wF, ?wN, ?wlt, ?_⟩; (case wF => assumption); (case wN => assumption); (case wlt => omega))
          exact ⟨rfl, a1, a2, a3, _, 0, _, _, by rfl, by rfl, congrArg (fun z : Int => some (Value.int z _)) (show ((k + 1 : Nat) : Int) - 1 = (k : Int) by omega), .inl ⟨p, tp, rfl, fwd_bound b1.1 b1.2 q, b2⟩⟩
        | none =>
          rw [fwdN, q] at b2
          rw [q] at hT
          have hT2 : _ = Value.none := hT
          subst hT2
          (dsimp only [WhileStep2]; refine' ⟨_, _, _, _, k, rfl, ?wF, ?wN, ?wlt, ?_⟩; (case wF => assumption); (case wN => assumption); (case wlt => omega))
          exact ⟨rfl, a1, a2, a3, _, 0, _, _, by rfl, by rfl, congrArg (fun z : Int => some (Value.int z _)) (show ((k + 1 : Nat) : Int) - 1 = (k : Int) by omega), .inr ⟨rfl, b2.symm⟩⟩
        | soon _ _ => rw [q] at hT; exact hT.elim
        | unbal _ _ => rw [q] at hT; exact hT.elim
      · rename TellsX _ _ => hX
        obtain ⟨k, rfl⟩ : ∃ k, n = k + 1 := ⟨n - 1, by omega⟩
        refine hexc _ _ _ _ (by assumption) ?_
        rw [← b2, fwdN]
        cases q : fwd codes a d' i with
        | at_ p => rw [q] at hX; exact hX.elim
        | none => rw [q] at hX; exact hX.elim
        | soon _ _ => rw [q] at hX; exact hX
        | unbal _ _ => rw [q] at hX; exact hX
      · refine unhalt ?_
        have hn : n = 0 := by omega
        subst hn
        refine' While_start (fun n₂ m₂ news₂ => news₂ = [] ∧ m₂ (Str.ofString "at") = some (.int a t) ∧ m₂ (Str.ofString "count") = some (.int 0 tk)) (n₀ := 0) ?iF ?iS ?_
        case iF => assumption
        case iS => exact ⟨[], News.nil, rfl, a4, a6⟩
        rintro n₂ m₂ news₂ h₂ tk₂ F₂ N₂ ⟨rfl, c1, c2⟩
        (repeat' (first | (k_unfold; (try dsimp only)) | (k_end; kc_close) | ((with_reducible show wpAny _ _ (execs (_ :: _) _) _ _ _); (with_reducible refine wpAny_execs_cons ?_); first | k_fold | (try dsimp only)) | (k_closed; first | ((with_reducible refine ite_pos ?_ ?_); (focus (k_dflt decide))) | ((with_reducible refine ite_neg ?_ ?_); (focus (k_dflt decide)))) | ((with_reducible show wpAny _ _ (call (.ref _) _) _ _ _); first | ((with_reducible show wpAny _ _ (call (.ref 579) _) _ _ _); (k_dflt (refine' DoesR.ledP (backward_one_does _ _ _ _ _ _ _ _ ?hc ?hp) ?uB ?uF ?uX ?uN ?usub ?uT ?uk ?uP ?ud ?uu ?_ ?_; walk_at "mine:l"; (case hc => assumption); (case hp => assumption); k_whole; rotate_left; walk_at "mine:x"; rotate_left; (focus (intro rZ hZ tkZ FZ NZ hTZ; (try k_sweep); (try dsimp only)))))) | ((with_reducible show wpAny _ _ (call (.ref 551) _) _ _ _); (k_dflt (refine' DoesR.ledP (forward_one_does _ _ _ _ _ _ _ _ ?hc ?hp) ?uB ?uF ?uX ?uN ?usub ?uT ?uk ?uP ?ud ?uu ?_ ?_; walk_at "mine:l"; (case hc => assumption); (case hp => assumption); k_whole; rotate_left; walk_at "mine:x"; rotate_left; (focus (intro rZ hZ tkZ FZ NZ hTZ; (try k_sweep); (try dsimp only))))))) | ((with_reducible show wpAny _ _ (exec (.While _ _ _ _) _) _ _ _); refine halt ?_) | ((with_reducible show wpAny _ _ (exec (.For _ _ _ _ _) _) _ _ _); refine halt ?_) | ((with_reducible show wpAny _ _ (eval (.Name _ _) _) _ _ _); k_here; k_dflt (refine' ld ?k1 ?k2 ?_; (case k1 => k_asm); (case k2 => first | with_reducible assumption | exact rfl | assumption); k_whole)) | walk1 | (dsimp only; with_reducible show wpAny _ _ (call (.ref _) _) _ _ _) | (dsimp only; walk1) | (leave1; (try dsimp only))))
        refine hret _ [] _ _ (by assumption) News.nil (Kept.of_frame hg' (by assumption)) ⟨rfl, ?_⟩
        rw [← b2]
        exact ⟨t, rfl⟩
    · (repeat' (first | (k_unfold; (try dsimp only)) | (k_end; kc_close) | ((with_reducible show wpAny _ _ (execs (_ :: _) _) _ _ _); (with_reducible refine wpAny_execs_cons ?_); first | k_fold | (try dsimp only)) | (k_closed; first | ((with_reducible refine ite_pos ?_ ?_); (focus (k_dflt decide))) | ((with_reducible refine ite_neg ?_ ?_); (focus (k_dflt decide)))) | ((with_reducible show wpAny _ _ (call (.ref _) _) _ _ _); first | ((with_reducible show wpAny _ _ (call (.ref 579) _) _ _ _); (k_dflt (refine' DoesR.ledP (backward_one_does _ _ _ _ _ _ _ _ ?hc ?hp) ?uB ?uF ?uX ?uN ?usub ?uT ?uk ?uP ?ud ?uu ?_ ?_; walk_at "mine:l"; (case hc => assumption); (case hp => assumption); k_whole; rotate_left; walk_at "mine:x"; rotate_left; (focus (intro rZ hZ tkZ FZ NZ hTZ; (try k_sweep); (try dsimp only)))))) | ((with_reducible show wpAny _ _ (call (.ref 551) _) _ _ _); (k_dflt (refine' DoesR.ledP (forward_one_does _ _ _ _ _ _ _ _ ?hc ?hp) ?uB ?uF ?uX ?uN ?usub ?uT ?uk ?uP ?ud ?uu ?_ ?_; walk_at "mine:l"; (case hc => assumption); (case hp => assumption); k_whole; rotate_left; walk_at "mine:x"; rotate_left; (focus (intro rZ hZ tkZ FZ NZ hTZ; (try k_sweep); (try dsimp only))))))) | ((with_reducible show wpAny _ _ (exec (.While _ _ _ _) _) _ _ _); refine halt ?_) | ((with_reducible show wpAny _ _ (exec (.For _ _ _ _ _) _) _ _ _); refine halt ?_) | ((with_reducible show wpAny _ _ (eval (.Name _ _) _) _ _ _); k_here; k_dflt (refine' ld ?k1 ?k2 ?_; (case k1 => k_asm); (case k2 => first | with_reducible assumption | exact rfl | assumption); k_whole)) | walk1 | (dsimp only; with_reducible show wpAny _ _ (call (.ref _) _) _ _ _) | (dsimp only; walk1) | (leave1; (try dsimp only))))
      refine unhalt ?_
      refine' While_start (fun n₂ m₂ news₂ => news₂ = [] ∧ m₂ (Str.ofString "at") = some .none) (n₀ := 0) ?iF ?iS ?_
      case iF => assumption
      case iS => exact ⟨[], News.nil, rfl, a4⟩
      rintro n₂ m₂ news₂ h₂ tk₂ F₂ N₂ ⟨rfl, c1⟩
      (repeat' (first | (k_unfold; (try dsimp only)) | (k_end; kc_close) | ((with_reducible show wpAny _ _ (execs (_ :: _) _) _ _ _); (with_reducible refine wpAny_execs_cons ?_); first | k_fold | (try dsimp only)) | (k_closed; first | ((with_reducible refine ite_pos ?_ ?_); (focus (k_dflt decide))) | ((with_reducible refine ite_neg ?_ ?_); (focus (k_dflt decide)))) | ((with_reducible show wpAny _ _ (call (.ref _) _) _ _ _); first | ((with_reducible show wpAny _ _ (call (.ref 579) _) _ _ _); (k_dflt (refine' DoesR.ledP (backward_one_does _ _ _ _ _ _ _ _ ?hc ?hp) ?uB ?uF ?uX ?uN ?usub ?uT ?uk ?uP ?ud ?uu ?_ ?_; walk_at "mine:l"; (case hc => assumption); (case hp => assumption); k_whole; rotate_left; walk_at "mine:x"; rotate_left; (focus (intro rZ hZ tkZ FZ NZ hTZ; (try k_sweep); (try dsimp only)))))) | ((with_reducible show wpAny _ _ (call (.ref 551) _) _ _ _); (k_dflt (refine' DoesR.ledP (forward_one_does _ _ _ _ _ _ _ _ ?hc ?hp) ?uB ?uF ?uX ?uN ?usub ?uT ?uk ?uP ?ud ?uu ?_ ?_; walk_at "mine:l"; (case hc => assumption); (case hp => assumption); k_whole; rotate_left; walk_at "mine:x"; rotate_left; (focus (intro rZ hZ tkZ FZ NZ hTZ; (try k_sweep); (try dsimp only))))))) | ((with_reducible show wpAny _ _ (exec (.While _ _ _ _) _) _ _ _); refine halt ?_) | ((with_reducible show wpAny _ _ (exec (.For _ _ _ _ _) _) _ _ _); refine halt ?_) | ((with_reducible show wpAny _ _ (eval (.Name _ _) _) _ _ _); k_here; k_dflt (refine' ld ?k1 ?k2 ?_; (case k1 => k_asm); (case k2 => first | with_reducible assumption | exact rfl | assumption); k_whole)) | walk1 | (dsimp only; with_reducible show wpAny _ _ (call (.ref _) _) _ _ _) | (dsimp only; walk1) | (leave1; (try dsimp only))))
      refine hret _ [] _ _ (by assumption) News.nil (Kept.of_frame hg' (by assumption)) ⟨rfl, ?_⟩
      rw [b2]
      exact rfl
  · have hres : scanR codes at_ count d i = bwdN codes i (0 - count).toNat at_ d := by unfold scanR; rw [if_neg hcount]
    rw [hres] at hret hexc
    (repeat' (first | (k_unfold; (try dsimp only)) | (k_end; kc_close) | ((with_reducible show wpAny _ _ (execs (_ :: _) _) _ _ _); (with_reducible refine wpAny_execs_cons ?_); first | k_fold | (try dsimp only)) | (k_closed; first | ((with_reducible refine ite_pos ?_ ?_); (focus (k_dflt decide))) | ((with_reducible refine ite_neg ?_ ?_); (focus (k_dflt decide)))) | ((with_reducible show wpAny _ _ (call (.ref _) _) _ _ _); first | ((with_reducible show wpAny _ _ (call (.ref 579) _) _ _ _); (k_dflt (refine' DoesR.ledP (backward_one_does _ _ _ _ _ _ _ _ ?hc ?hp) ?uB ?uF ?uX ?uN ?usub ?uT ?uk ?uP ?ud ?uu ?_ ?_; walk_at "mine:l"; (case hc => assumption); (case hp => assumption); k_whole; rotate_left; walk_at "mine:x"; rotate_left; (focus (intro rZ hZ tkZ FZ NZ hTZ; (try k_sweep); (try dsimp only)))))) | ((with_reducible show wpAny _ _ (call (.ref 551) _) _ _ _); (k_dflt (refine' DoesR.ledP (forward_one_does _ _ _ _ _ _ _ _ ?hc ?hp) ?uB ?uF ?uX ?uN ?usub ?uT ?uk ?uP ?ud ?uu ?_ ?_; walk_at "mine:l"; (case hc => assumption); (case hp => assumption); k_whole; rotate_left; walk_at "mine:x"; rotate_left; (focus (intro rZ hZ tkZ FZ NZ hTZ; (try k_sweep); (try dsimp only))))))) | ((with_reducible show wpAny _ _ (exec (.While _ _ _ _) _) _ _ _); refine halt ?_) | ((with_reducible show wpAny _ _ (exec (.For _ _ _ _ _) _) _ _ _); refine halt ?_) | ((with_reducible show wpAny _ _ (eval (.Name _ _) _) _ _ _); k_here; k_dflt (refine' ld ?k1 ?k2 ?_; (case k1 => k_asm); (case k2 => first | with_reducible assumption | exact rfl | assumption); k_whole)) | walk1 | (dsimp only; with_reducible show wpAny _ _ (call (.ref _) _) _ _ _) | (dsimp only; walk1) | (leave1; (try dsimp only))))
    refine unhalt ?_
    refine' While_start (fun n m₁ news₁ => news₁ = [] ∧ m₁ (Str.ofString "view") = some (.ref e.v) ∧ m₁ (Str.ofString "table") = some (.ref e.t) ∧ m₁ (Str.ofString "is_expression") = some (.bool i) ∧ m₁ (Str.ofString "at") = some (.int at_ ta) ∧ m₁ (Str.ofString "depth") = some (.int d tc) ∧ m₁ (Str.ofString "count") = some (.int count tb)) (n₀ := 0) ?iF ?iS ?_
    case iF => assumption
    case iS => exact ⟨[], News.nil, rfl, by rfl, by rfl, by rfl, by rfl, by rfl, by rfl⟩
    rintro n₀ m₀ news₀ h₀' tk₀ F₀ N₀ ⟨rfl, z1, z2, z3, z4, z5, z6⟩
    (repeat' (first | (k_unfold; (try dsimp only)) | (k_end; kc_close) | ((with_reducible show wpAny _ _ (execs (_ :: _) _) _ _ _); (with_reducible refine wpAny_execs_cons ?_); first | k_fold | (try dsimp only)) | (k_closed; first | ((with_reducible refine ite_pos ?_ ?_); (focus (k_dflt decide))) | ((with_reducible refine ite_neg ?_ ?_); (focus (k_dflt decide)))) | ((with_reducible show wpAny _ _ (call (.ref _) _) _ _ _); first | ((with_reducible show wpAny _ _ (call (.ref 579) _) _ _ _); (k_dflt (refine' DoesR.ledP (backward_one_does _ _ _ _ _ _ _ _ ?hc ?hp) ?uB ?uF ?uX ?uN ?usub ?uT ?uk ?uP ?ud ?uu ?_ ?_; walk_at "mine:l"; (case hc => assumption); (case hp => assumption); k_whole; rotate_left; walk_at "mine:x"; rotate_left; (focus (intro rZ hZ tkZ FZ NZ hTZ; (try k_sweep); (try dsimp only)))))) | ((with_reducible show wpAny _ _ (call (.ref 551) _) _ _ _); (k_dflt (refine' DoesR.ledP (forward_one_does _ _ _ _ _ _ _ _ ?hc ?hp) ?uB ?uF ?uX ?uN ?usub ?uT ?uk ?uP ?ud ?uu ?_ ?_; walk_at "mine:l"; (case hc => assumption); (case hp => assumption); k_whole; rotate_left; walk_at "mine:x"; rotate_left; (focus (intro rZ hZ tkZ FZ NZ hTZ; (try k_sweep); (try dsimp only))))))) | ((with_reducible show wpAny _ _ (exec (.While _ _ _ _) _) _ _ _); refine halt ?_) | ((with_reducible show wpAny _ _ (exec (.For _ _ _ _ _) _) _ _ _); refine halt ?_) | ((with_reducible show wpAny _ _ (eval (.Name _ _) _) _ _ _); k_here; k_dflt (refine' ld ?k1 ?k2 ?_; (case k1 => k_asm); (case k2 => first | with_reducible assumption | exact rfl | assumption); k_whole)) | walk1 | (dsimp only; with_reducible show wpAny _ _ (call (.ref _) _) _ _ _) | (dsimp only; walk1) | (leave1; (try dsimp only))))
    refine unhalt ?_
    refine' While_start (fun n m₁ news₁ => news₁ = [] ∧ m₁ (Str.ofString "view") = some (.ref e.v) ∧ m₁ (Str.ofString "table") = some (.ref e.t) ∧ m₁ (Str.ofString "is_expression") = some (.bool i) ∧
      ∃ (av : Value) (d' : Int) (td tk : Tok), m₁ (Str.ofString "at") = some av ∧ m₁ (Str.ofString "depth") = some (.int d' td) ∧ m₁ (Str.ofString "count") = some (.int (0 - (n : Int)) tk) ∧ AtIs (bwdN codes i) codes.length (bwdN codes i (0 - count).toNat at_ d) n av d') (n₀ := (0 - count).toNat) ?iF ?iS ?_
    case iF => assumption
    case iS => exact ⟨[], News.nil, rfl, z1, z2, z3, _, _, _, _, z4, z5, by (have : 0 - (((0 - count).toNat : Nat) : Int) = count := by omega); rw [this]; exact z6, .inl ⟨_, _, rfl, hp, rfl⟩⟩
    intro n m₁ news₁ h₁ tk₁ F₁ N₁ hI9
    (try k_fold)
    (refine cps ?_; intro G9 out9)
    obtain ⟨rfl, a1, a2, a3, av, d', td, tk, a4, a5, a6, hA⟩ := hI9
    (refine out9 ?_; clear out9 G9)
    rcases hA with ⟨a, t, rfl, b1, b2⟩ | ⟨rfl, b2⟩
    · (repeat' (first | (k_unfold; (try dsimp only)) | (k_end; kc_close) | ((with_reducible show wpAny _ _ (execs (_ :: _) _) _ _ _); (with_reducible refine wpAny_execs_cons ?_); first | k_fold | (try dsimp only)) | (k_closed; first | ((with_reducible refine ite_pos ?_ ?_); (focus (k_dflt decide))) | ((with_reducible refine ite_neg ?_ ?_); (focus (k_dflt decide)))) | ((with_reducible show wpAny _ _ (call (.ref _) _) _ _ _); first | ((with_reducible show wpAny _ _ (call (.ref 579) _) _ _ _); (k_dflt (refine' DoesR.ledP (backward_one_does _ _ _ _ _ _ _ _ ?hc ?hp) ?uB ?uF ?uX ?uN ?usub ?uT ?uk ?uP ?ud ?uu ?_ ?_; walk_at "mine:l"; (case hc => assumption); (case hp => assumption); k_whole; rotate_left; walk_at "mine:x"; rotate_left; (focus (intro rZ hZ tkZ FZ NZ hTZ; (try k_sweep); (try dsimp only)))))) | ((with_reducible show wpAny _ _ (call (.ref 551) _) _ _ _); (k_dflt (refine' DoesR.ledP (forward_one_does _ _ _ _ _ _ _ _ ?hc ?hp) ?uB ?uF ?uX ?uN ?usub ?uT ?uk ?uP ?ud ?uu ?_ ?_; walk_at "mine:l"; (case hc => assumption); (case hp => assumption); k_whole; rotate_left; walk_at "mine:x"; rotate_left; (focus (intro rZ hZ tkZ FZ NZ hTZ; (try k_sweep); (try dsimp only))))))) | ((with_reducible show wpAny _ _ (exec (.While _ _ _ _) _) _ _ _); refine halt ?_) | ((with_reducible show wpAny _ _ (exec (.For _ _ _ _ _) _) _ _ _); refine halt ?_) | ((with_reducible show wpAny _ _ (eval (.Name _ _) _) _ _ _); k_here; k_dflt (refine' ld ?k1 ?k2 ?_; (case k1 => k_asm); (case k2 => first | with_reducible assumption | exact rfl | assumption); k_whole)) | walk1 | (dsimp only; with_reducible show wpAny _ _ (call (.ref _) _) _ _ _) | (dsimp only; walk1) | (leave1; (try dsimp only))))
      · rename TellsR _ _ => hT
        obtain ⟨k, rfl⟩ : ∃ k, n = k + 1 := ⟨n - 1, by omega⟩
        cases q : bwd codes a d' i with
        | at_ p =>
          rw [bwdN, q] at b2
          rw [q] at hT
          obtain ⟨tp, rfl⟩ := hT
          (dsimp only [WhileStep2]; refine' ⟨_, _, _, _, k, rfl, ?wF, ?wN, ?wlt, ?_⟩; (case wF => assumption); (case wN => assumption); (case wlt => omega))
          exact ⟨rfl, a1, a2, a3, _, 0, _, _, by rfl, by rfl, congrArg (fun z : Int => some (Value.int z _)) (show 0 - ((k + 1 : Nat) : Int) + 1 = 0 - (k : Int) by omega), .inl ⟨p, tp, rfl, bwd_bound b1.1 b1.2 q, b2⟩⟩
        | none =>
          rw [bwdN, q] at b2
          rw [q] at hT
          have hT2 : _ = Value.none := hT
          subst hT2
          (dsimp only [WhileStep2]; refine' ⟨_, _, _, _, k, rfl, ?wF, ?wN, ?wlt, ?_⟩; (case wF => assumption); (case wN => assumption); (case wlt => omega))
          exact ⟨rfl, a1, a2, a3, _, 0, _, _, by rfl, by rfl, congrArg (fun z : Int => some (Value.int z _)) (show 0 - ((k + 1 : Nat) : Int) + 1 = 0 - (k : Int) by omega), .inr ⟨rfl, b2.symm⟩⟩
        | soon _ _ => rw [q] at hT; exact hT.elim
        | unbal _ _ => rw [q] at hT; exact hT.elim
      · rename TellsX _ _ => hX
        obtain ⟨k, rfl⟩ : ∃ k, n = k + 1 := ⟨n - 1, by omega⟩
        refine hexc _ _ _ _ (by assumption) ?_
        rw [← b2, bwdN]
        cases q : bwd codes a d' i with
        | at_ p => rw [q] at hX; exact hX.elim
        | none => rw [q] at hX; exact hX.elim
        | soon _ _ => rw [q] at hX; exact hX
        | unbal _ _ => rw [q] at hX; exact hX
      · have hn : n = 0 := by omega
        subst hn
        refine hret _ [] _ _ (by assumption) News.nil (Kept.of_frame hg' (by assumption)) ⟨rfl, ?_⟩
        rw [← b2]
        exact ⟨t, rfl⟩
    · (repeat' (first | (k_unfold; (try dsimp only)) | (k_end; kc_close) | ((with_reducible show wpAny _ _ (execs (_ :: _) _) _ _ _); (with_reducible refine wpAny_execs_cons ?_); first | k_fold | (try dsimp only)) | (k_closed; first | ((with_reducible refine ite_pos ?_ ?_); (focus (k_dflt decide))) | ((with_reducible refine ite_neg ?_ ?_); (focus (k_dflt decide)))) | ((with_reducible show wpAny _ _ (call (.ref _) _) _ _ _); first | ((with_reducible show wpAny _ _ (call (.ref 579) _) _ _ _); (k_dflt (refine' DoesR.ledP (backward_one_does _ _ _ _ _ _ _ _ ?hc ?hp) ?uB ?uF ?uX ?uN ?usub ?uT ?uk ?uP ?ud ?uu ?_ ?_; walk_at "mine:l"; (case hc => assumption); (case hp => assumption); k_whole; rotate_left; walk_at "mine:x"; rotate_left; (focus (intro rZ hZ tkZ FZ NZ hTZ; (try k_sweep); (try dsimp only)))))) | ((with_reducible show wpAny _ _ (call (.ref 551) _) _ _ _); (k_dflt (refine' DoesR.ledP (forward_one_does _ _ _ _ _ _ _ _ ?hc ?hp) ?uB ?uF ?uX ?uN ?usub ?uT ?uk ?uP ?ud ?uu ?_ ?_; walk_at "mine:l"; (case hc => assumption); (case hp => assumption); k_whole; rotate_left; walk_at "mine:x"; rotate_left; (focus (intro rZ hZ tkZ FZ NZ hTZ; (try k_sweep); (try dsimp only))))))) | ((with_reducible show wpAny _ _ (exec (.While _ _ _ _) _) _ _ _); refine halt ?_) | ((with_reducible show wpAny _ _ (exec (.For _ _ _ _ _) _) _ _ _); refine halt ?_) | ((with_reducible show wpAny _ _ (eval (.Name _ _) _) _ _ _); k_here; k_dflt (refine' ld ?k1 ?k2 ?_; (case k1 => k_asm); (case k2 => first | with_reducible assumption | exact rfl | assumption); k_whole)) | walk1 | (dsimp only; with_reducible show wpAny _ _ (call (.ref _) _) _ _ _) | (dsimp only; walk1) | (leave1; (try dsimp only))))
      refine hret _ [] _ _ (by assumption) News.nil (Kept.of_frame hg' (by assumption)) ⟨rfl, ?_⟩
      rw [b2]
      exact rfl
end
-- C1
noncomputable section
set_option maxRecDepth 100000

set_option maxHeartbeats 8000000 in
theorem scan_lists_does (w : World) (codes : List Int) (e : Ar) (at_ count d : Int) (ta tb tc : Tok) (hc : Codes codes) (hp : 1 ≤ at_ ∧ at_ ≤ 1 + codes.length) :
    DoesR w 13 208 (IsAr w codes e) 593 [.ref e.v, .ref e.t, .int at_ ta, .int count tb, .int d tc] [] (fun r nx => nx = [] ∧ TellsR (scanR codes at_ count d false) r) (TellsX (scanR codes at_ count d false)) := by
  unfold DoesR
  intro mean mg mb dp un gd cn cs a ccd cl outer A₀ base h₀ L m s g₀ Q E B F X N T hk hP st dj hd hu hret hexc
  refine wpAny_call ?_
  k_dflt (refine' enter (binds := [(Str.ofString "view", .ref e.v), (Str.ofString "table", .ref e.t), (Str.ofString "at", .int at_ ta), (Str.ofString "count", .int count tb), (Str.ofString "depth", .int d tc)]) ?k1 ?k2 ?k3 ?k4 ?k5 ?kA ?kF ?kK ?k6 ?k7 ?k8 ?k9 ?kB ?_ ?c2 ?c3 ?c4 ?c5; (case kA => exact rfl); (case kF => exact rfl); (case kK => assumption); (case k1 => k_asm); (case k2 => k_asm); (case k3 => k_asm); (case k4 => k_asm); (case k5 => k_asm); (case k6 => k_is); (case k7 => k_is); (case k8 => ktr_room); (case k9 => first | exact BindsTo.of_eq rfl | exact binds_K (by k_in) rfl (by k_is) rfl rfl rfl); (case c5 => decide); (case kB => exact locs rfl); (case c2 => exact rfl); (case c3 => exact rfl); (case c4 => exact rfl); k_whole; intro g' L' h' tk0 FG' F' N' B' X' T' hg'; (try dsimp only); (try k_fold); (try (refine letA ?_; intro Ak)))
  have hA9 := isAr_mono _ _ _ _ _ (stays_of st dj hg') hP
  clear hP st dj
  have hV := hA9.1
  have hT := hA9.2
  clear hA9
  refine IsView.use hV ?_
  intro dv lc hv1 hv2 kv1 kv2 tv vs IV Ll iv
  (repeat' (first | (k_unfold; (try dsimp only)) | (k_end; kc_close) | ((with_reducible show wpAny _ _ (execs (_ :: _) _) _ _ _); (with_reducible refine wpAny_execs_cons ?_); first | k_fold | (try dsimp only)) | (k_closed; first | ((with_reducible refine ite_pos ?_ ?_); (focus (k_dflt decide))) | ((with_reducible refine ite_neg ?_ ?_); (focus (k_dflt decide)))) | ((with_reducible show wpAny _ _ (call (.ref _) _) _ _ _); first | ((with_reducible show wpAny _ _ (call (.ref 586) _) _ _ _); (k_dflt (refine' DoesR.ledP (scan_by_does _ _ _ _ _ _ _ _ _ _ ?hc ?hp) ?uB ?uF ?uX ?uN ?usub ?uT ?uk ?uP ?ud ?uu ?_ ?_; walk_at "mine:l"; (case hc => assumption); (case hp => assumption); k_whole; rotate_left; walk_at "mine:x"; rotate_left; (focus (intro rZ hZ tkZ FZ NZ hTZ; (try k_sweep); (try dsimp only))))))) | ((with_reducible show wpAny _ _ (exec (.While _ _ _ _) _) _ _ _); refine halt ?_) | ((with_reducible show wpAny _ _ (exec (.For _ _ _ _ _) _) _ _ _); refine halt ?_) | ((with_reducible show wpAny _ _ (eval (.Name _ _) _) _ _ _); k_here; k_dflt (refine' ld ?k1 ?k2 ?_; (case k1 => k_asm); (case k2 => first | with_reducible assumption | exact rfl | assumption); k_whole)) | walk1 | (dsimp only; with_reducible show wpAny _ _ (call (.ref _) _) _ _ _) | (dsimp only; walk1) | (leave1; (try dsimp only))))
  · refine hret _ [] _ _ (by assumption) News.nil (Kept.of_frame hg' (by assumption)) ⟨rfl, by assumption⟩
  · exact hexc _ _ _ _ (by assumption) (by assumption)
set_option maxHeartbeats 8000000 in
theorem scan_sexps_does (w : World) (codes : List Int) (e : Ar) (at_ count : Int) (ta tb : Tok) (hc : Codes codes) (hp : 1 ≤ at_ ∧ at_ ≤ 1 + codes.length) :
    DoesR w 13 208 (IsAr w codes e) 600 [.ref e.v, .ref e.t, .int at_ ta, .int count tb] [] (fun r nx => nx = [] ∧ TellsR (scanR codes at_ count 0 true) r) (TellsX (scanR codes at_ count 0 true)) := by
  unfold DoesR
  intro mean mg mb dp un gd cn cs a ccd cl outer A₀ base h₀ L m s g₀ Q E B F X N T hk hP st dj hd hu hret hexc
  refine wpAny_call ?_
  k_dflt (refine' enter (binds := [(Str.ofString "view", .ref e.v), (Str.ofString "table", .ref e.t), (Str.ofString "at", .int at_ ta), (Str.ofString "count", .int count tb)]) ?k1 ?k2 ?k3 ?k4 ?k5 ?kA ?kF ?kK ?k6 ?k7 ?k8 ?k9 ?kB ?_ ?c2 ?c3 ?c4 ?c5; (case kA => exact rfl); (case kF => exact rfl); (case kK => assumption); (case k1 => k_asm); (case k2 => k_asm); (case k3 => k_asm); (case k4 => k_asm); (case k5 => k_asm); (case k6 => k_is); (case k7 => k_is); (case k8 => ktr_room); (case k9 => first | exact BindsTo.of_eq rfl | exact binds_K (by k_in) rfl (by k_is) rfl rfl rfl); (case c5 => decide); (case kB => exact locs rfl); (case c2 => exact rfl); (case c3 => exact rfl); (case c4 => exact rfl); k_whole; intro g' L' h' tk0 FG' F' N' B' X' T' hg'; (try dsimp only); (try k_fold); (try (refine letA ?_; intro Ak)))
  have hA9 := isAr_mono _ _ _ _ _ (stays_of st dj hg') hP
  clear hP st dj
  have hV := hA9.1
  have hT := hA9.2
  clear hA9
  refine IsView.use hV ?_
  intro dv lc hv1 hv2 kv1 kv2 tv vs IV Ll iv
  (repeat' (first | (k_unfold; (try dsimp only)) | (k_end; kc_close) | ((with_reducible show wpAny _ _ (execs (_ :: _) _) _ _ _); (with_reducible refine wpAny_execs_cons ?_); first | k_fold | (try dsimp only)) | (k_closed; first | ((with_reducible refine ite_pos ?_ ?_); (focus (k_dflt decide))) | ((with_reducible refine ite_neg ?_ ?_); (focus (k_dflt decide)))) | ((with_reducible show wpAny _ _ (call (.ref _) _) _ _ _); first | ((with_reducible show wpAny _ _ (call (.ref 586) _) _ _ _); (k_dflt (refine' DoesR.ledP (scan_by_does _ _ _ _ _ _ _ _ _ _ ?hc ?hp) ?uB ?uF ?uX ?uN ?usub ?uT ?uk ?uP ?ud ?uu ?_ ?_; walk_at "mine:l"; (case hc => assumption); (case hp => assumption); k_whole; rotate_left; walk_at "mine:x"; rotate_left; (focus (intro rZ hZ tkZ FZ NZ hTZ; (try k_sweep); (try dsimp only))))))) | ((with_reducible show wpAny _ _ (exec (.While _ _ _ _) _) _ _ _); refine halt ?_) | ((with_reducible show wpAny _ _ (exec (.For _ _ _ _ _) _) _ _ _); refine halt ?_) | ((with_reducible show wpAny _ _ (eval (.Name _ _) _) _ _ _); k_here; k_dflt (refine' ld ?k1 ?k2 ?_; (case k1 => k_asm); (case k2 => first | with_reducible assumption | exact rfl | assumption); k_whole)) | walk1 | (dsimp only; with_reducible show wpAny _ _ (call (.ref _) _) _ _ _) | (dsimp only; walk1) | (leave1; (try dsimp only))))
  · refine hret _ [] _ _ (by assumption) News.nil (Kept.of_frame hg' (by assumption)) ⟨rfl, by assumption⟩
  · exact hexc _ _ _ _ (by assumption) (by assumption)
end
-- X5
noncomputable section
set_option maxRecDepth 100000

noncomputable def cut (h : Heap) (n : Nat) : Heap := { objs := h.objs.extract 0 n, life := h.life }
theorem cut_lt {h : Heap} {n b : Nat} (hb : b < n) : (cut h n).get? b = h.get? b := by
  have : (h.objs.extract 0 n)[b]? = h.objs[b]? := by
    rw [Array.getElem?_extract]
    by_cases q : b < h.objs.size
    · rw [if_pos (by omega), Nat.zero_add]
    · rw [if_neg (by omega)]
      exact (Array.getElem?_eq_none (by omega)).symm
  unfold Heap.get? cut
  dsimp only
  rw [this]
theorem cut_ge {h : Heap} {n b : Nat} (hb : n ≤ b) : (cut h n).get? b = none := by
  have : (h.objs.extract 0 n)[b]? = none := by
    rw [Array.getElem?_extract, if_neg (by omega)]
  unfold Heap.get? cut
  dsimp only
  rw [this]
theorem cut_size (h : Heap) (n : Nat) : (cut h n).objs.size ≤ n := by
  unfold cut
  dsimp only
  rw [Array.size_extract]
  omega
theorem cut_in {h : Heap} {n b : Nat} {o : Obj} (e : (cut h n).get? b = some o) : h.get? b = some o ∧ b < n := by
  by_cases q : b < n
  · exact ⟨by rw [← cut_lt q]; exact e, q⟩
  · rw [cut_ge (Nat.le_of_not_lt q)] at e
    cases e
theorem lookIn_of {h : Heap} {dx : Addr} {mA : Str → Option Value} {name : Str} {v : Value} {od : Obj} (ns : h.Ns1 dx mA) (e : h.get? dx = some od) (hm : mA name = some v) : lookIn name od = some (some v) := by
  obtain ⟨o, es, ep, eo, hd, _, _, hf⟩ := ns
  rw [e] at eo
  cases eo
  have h1 := hf name
  rw [hm] at h1
  unfold nsFind findBy at h1
  rw [← Array.find?_toList] at h1
  unfold lookIn
  rw [hd]
  dsimp only
  cases he : es.toList.find? (·.key.isStr name) with
  | none => rw [he] at h1; cases h1
  | some en => rw [he] at h1; cases h1; rfl
theorem ns_up {h h' : Heap} {L : Addr} {m : Str → Option Value} (N : h.Ns L m) (up : ∀ o, h.get? L = some o → (∀ vs, o.data ≠ .fields vs) → ∃ sl, h'.get? L = some { o with slots := sl }) : h'.Ns L m := by
  obtain ⟨o, es, ep, e, hd, hk, hm⟩ := N
  obtain ⟨sl, e'⟩ := up o e fun vs q => by rw [hd] at q; cases q
  exact ⟨_, es, ep, e', hd, hk, hm⟩
theorem get_exc {prog : Program} {w : World} {A : Around} {E : Value → Shared → Prop} {Q : Value → Shared → Prop} {s : Shared} {g : Heap} {L x : Addr} {m : Str → Option Value} {ox od : Obj} {name : Str} {v : Value} {expr : Bool} (F : Fr g L s.heap m) (X₀ : (K w.params).In g) (I : InstAt s.heap x ox 96 (some od)) (hl : lookIn name od = some (some v)) (hh : handedIn v = true) (ha : findIn (K w.params) (.ref 96) name = some none) (h : Q v { s with toks := s.toks + 1 }) :
    wpAny (model prog w) A (getAttr (.ref x) name expr) Q E s := by
  have X := X₀.keeps F.keep
  have FB := PySem.F.attr_Exception
  have L0 := I.type (M := model prog w)
  have L1 : Looks (model prog w) s.heap (typeLookup (.ref 96) "__getattribute__") (some (.builtin "BaseException.__getattribute__")) := looks_findIn X (by k_is)
  have L2 : Looks (model prog w) s.heap (typeLookup (.ref 96) "__getattr__") none := looks_findIn X (by k_is)
  have L3 := looks_find (M := model prog w) X I (findObj_own (by k_is) ha rfl hl)
  have sub : Looks (model prog w) s.heap (isInstance (.ref x) (.type "BaseException")) true := I.type.andThen (looks_mroIn X (by k_is))
  have hk : builtinKind "BaseException.__getattribute__" = some .slot := by decide +kernel
  have hsplit : splitId "BaseException.__getattribute__" = some ("BaseException", "__getattribute__") := by decide +kernel
  have hx0 : (expr && onTheHeap (Value.builtin "BaseException.__getattribute__")) = false := by cases expr <;> rfl
  obtain ⟨hp, gs, d, t, os⟩ := s
  unfold getAttr getAttrBy
  refine wpAny_bind (wpAny_mkText (wpAny_holding (wpAny_bind (L0.at (wpAny_bind (L1.at ?_))))))
  have hx2 : (Value.builtin "BaseException.__getattribute__" == Value.builtin "object.__getattribute__") = false := by decide +kernel
  dsimp only
  rw [hx2, Bool.and_false, if_neg (by decide)]
  unfold getAttrByItsOwn hookBefore
  refine wpAny_bind ?_
  rw [if_pos (by rfl)]
  refine L2.at (wpAny_bind (wpAny_attempt (wpAny_holding ?_)))
  unfold callGetattribute
  rw [hx0, if_neg (by decide)]
  unfold boundAndCalled
  refine wpAny_bind ?_
  rw [FB.ga.bind (.ref x)]
  refine wpAny_pure (wpAny_call ?_)
  refine codeAny_call_builtin FB.ga.plain PySem.F.entry_bexc_ga (@check_slot (model prog w) _ _ _ "BaseException.__getattribute__" "BaseException" "__getattribute__" (.ref x) [.str name t] [] _ hk hsplit sub (PySem.F.args_bexc_ga (.ref x) (.str name t)) ?_)
  unfold Builtin.«object.__getattribute__»
  refine wpAny_bind (wpAny_pure (wpAny_bind (wpAny_pure (wpAny_bind (L0.at (wpAny_bind (L3.at ?_)))))))
  refine wpAny_pure ?_
  show wpAny _ _ (handedOut v) _ _ _
  rw [handedOut_of hh]
  exact wpAny_pure h
section
variable {w : World} {A₁ : Around} {E : Value → Shared → Prop} {s' : Shared} {base hs h₀ : Heap} {name : Str} {scope : Scope} {L' a e : Addr} {cd : Value} {outer' : List Env} {m' mg mb : Str → Option Value} {mean : ExcName → Option Value} {g : Sig} {Q : Flow → Shared → Prop} {n : Str} {b₀ : Stmt} {suite : List Stmt} {pos np : Pos} {rest : List ExceptHandler}
/-- what a def that has caught a scan's error knows -/
structure Caught (base hs h₀ : Heap) (l : List Env) (e L' : Addr) (g : Sig) (g₂ h : Heap) : Prop where
  ground : h₀.StaysIn g₂
  size : g₂.objs.size ≤ L'
  all : ∃ oe od dx lc t0 t1 t2 t3, InstAt h e oe 96 (some od) ∧ oe.dict = some dx ∧ lookIn (Str.ofString "symbol") od = some (some (.str (Str.ofString "scan-error") t0)) ∧ lookIn (Str.ofString "data") od = some (some (.ref lc)) ∧ h.IsList lc #[.str g.msg t1, .int g.good t2, .int g.place t3]
  apart : ∀ b ∈ frs l, g₂.get? b = none
  kept : ∀ b o, hs.get? b = some o → b ∉ frs l → b < L' → g₂.get? b = some o
  frames : ∀ b o, hs.get? b = some o → b ∈ frs l → b ≠ L' → (∀ vs, o.data ≠ .fields vs) → ∃ sl, h.get? b = some { o with slots := sl }
theorem caught_sig (hfr : A₁.frames = some (envOf name scope L' a cd :: outer')) (hsc : scope.kind = .function)
    (TH : Thrown base (envOf name scope L' a cd :: outer') hs [] e g s'.heap) (hL : hs.Ns L' m') (hLt : ∀ b o, h₀.get? b = some o → hs.get? b = some o ∧ b < L' ∧ b ∉ frs outer')
    (X₀ : (K w.params).In h₀) (T₀ : Tp mean mg mb h₀)
    (k : ∀ h' g₂ tk, Fr g₂ L' h' (fun y => if y = n then some (.ref e) else m' y) → Caught base hs h₀ (envOf name scope L' a cd :: outer') e L' g g₂ h' →
      wpAny (model Pg w) (A₁.mark (some (.ref e))) (execs (b₀ :: suite) (envOf name scope L' a cd))
        (fun f s₄ => wpAny (model Pg w) A₁ (do bindName (envOf name scope L' a cd) n .none; unbindBehindTheSuite (envOf name scope L' a cd) n pos) (fun _ s₅ => Q f s₅) E s₄)
        (AsSuiteRaised (model Pg w) (A₁.mark (some (.ref e))) (envOf name scope L' a cd) n pos (notedBy (model Pg w) (A₁.mark (some (.ref e))) (envOf name scope L' a cd) (cameBackBy (model Pg w) A₁ (envOf name scope L' a cd) E)))
        { s' with heap := h', toks := tk })
    (hlo : (envOf name scope L' a cd).kindOf n = some .local) (hx : (envOf name scope L' a cd).kindOf (Str.ofString "LispSignal") = some .globalImplicit) :
    wpAny (model Pg w) A₁ (noteFrame (.ref e) (envOf name scope L' a cd))
      (fun _ s₂ => wpAny (model Pg w) A₁ (setFlight (.ref e) none) (fun _ s₃ =>
        wpAny (model Pg w) A₁ (handleBy (.ref e) (envOf name scope L' a cd) (.ExceptHandler (some (.Name (Str.ofString "LispSignal") np)) (some n) (b₀ :: suite) pos :: rest)) Q E s₃) E s₂) E s' := by
  obtain ⟨B, t, dx, hB, hfl, hD, hDat, hkeep, hfs⟩ := TH
  have hf : (envOf name scope L' a cd).frame = some L' := rfl
  have W := wpAny_looks_onW (M := model Pg w) (E := fun _ _ => False) (Q := fun _ s2 => ∃ h', s2 = { s' with heap := h' } ∧ Heap.HeldW B (envOf name scope L' a cd :: outer') e (.ref 96) (.ref t) L' h' ∧ s'.heap.UpToSlots h') hfr hf hfl fun h' a b => ⟨h', rfl, a, b⟩
  refine wpAny_mono (mild_any (mild_noteFrame _ _) hD W) (fun _ s2 z => ?_) fun _ _ z => z.1.elim
  obtain ⟨⟨h4, rfl, hheld, hup4⟩, hD4⟩ := z
  have W2 := wpAny_landsW (M := model Pg w) (A := A₁) (E := fun _ _ => False) (s := { s' with heap := h4 }) (Q := fun _ s2 => ∃ h', s2 = { s' with heap := h' } ∧ Heap.FlyingW B (envOf name scope L' a cd :: outer') e (.ref 96) (.ref t) h' ∧ h4.UpToSlots h') hheld fun h' a b => ⟨h', rfl, a, b⟩
  refine wpAny_mono (mild_any (mild_setFlight _ _) hD4 W2) (fun _ s2 z => ?_) fun _ _ z => z.1.elim
  obtain ⟨⟨h5, rfl, hfl5, hup5⟩, hD5⟩ := z
  have hmem : L' ∈ frs (envOf name scope L' a cd :: outer') := by rw [frs_cons hf]; exact .head _
  have ns5 : h5.Ns L' m' := Heap.UpToSlots.ns hup5 (Heap.UpToSlots.ns hup4 (ns_up hL fun o q1 q2 => hfs L' o q1 hmem q2))
  have hin : ∀ b o, hs.get? b = some o → b ∉ frs (envOf name scope L' a cd :: outer') → b < L' → (cut B L').get? b = some o := fun b o e1 e2 e3 => by
    rw [cut_lt e3]
    exact hkeep b o e1 (fun _ h => nomatch h) e2
  have gr : h₀.StaysIn (cut B L') := fun b o q => by
    obtain ⟨q1, q2, q3⟩ := hLt b o q
    refine hin b o q1 (fun hm => ?_) q2
    rw [frs_cons hf] at hm
    rcases List.mem_cons.mp hm with z | z
    · rw [z] at q2; exact Nat.lt_irrefl _ q2
    · exact q3 z
  have stB : ∀ h : Heap, B.StaysIn h → (cut B L').StaysIn h := fun h k b o q => k b o (cut_in q).1
  have F5 : Fr (cut B L') L' h5 m' := ⟨ns5, stB _ hfl5.1, cut_size _ _⟩
  have X2 := X₀.keeps gr
  have T2 : Tp mean mg mb (cut B L') := T₀.keeps gr
  obtain ⟨ob, hob, hobc⟩ := hfl5.there
  refine wpAny_handleBy_cons (codeAny_handlers_test (name_K F5 X2 (topRead_of T2) (by k_is) ?_ hsc hx (by decide))) (by intro q; cases q)
  have hC : h5.get? 96 = some (excClassObj (S "LispSignal") (S "LispSignal") 96 95 [.type "Exception"] [.type "Exception", .type "BaseException", .type "object"] true [] [] false none none (some (.ref 80)) none (some (.str (S "LispSignal") 302)) (some (.str (S "LispSignal") 310)) (some (.bool true)) "Exception.__new__") := X2.keeps F5.keep 96 _ (by k_is)
  refine wpAny_excMatches_sub_self hC hob hobc (by decide +kernel) (codeAny_handlers_suite_as ?_)
  have W3 := lands_againW (M := model Pg w) (A := A₁.mark (some (.ref e))) (E := fun _ _ => False) (s := { s' with heap := h5 }) (Q := fun _ s2 => ∃ h', s2 = { s' with heap := h' } ∧ Heap.FlyingW B (envOf name scope L' a cd :: outer') e (.ref 96) (.ref t) h' ∧ h5.UpToSlots h') hfl5 fun h' a b => ⟨h', rfl, a, b⟩
  refine wpAny_mono (mild_any (mild_setFlight _ _) hD5 W3) (fun _ s2 z => ?_) fun _ _ z => z.1.elim
  obtain ⟨⟨h6, rfl, hfl6, hup6⟩, hD6⟩ := z
  have F6 : Fr (cut B L') L' h6 m' := ⟨Heap.UpToSlots.ns hup6 ns5, stB _ hfl6.1, cut_size _ _⟩
  refine stNK F6 (news := []) News.nil (fun h7 F7 _ sb ns6 => ?_) hsc hlo
  have hBL : B.get? L' = none := (hfl6.2.2.1.mem hmem).1
  have toB : ∀ b o, B.get? b = some o → h7.get? b = some o := fun b o q => (sb.2 b fun z => by rw [z, hBL] at q; cases q).trans (hfl6.1 b o q)
  refine k h7 (cut B L') _ F7 ⟨gr, cut_size _ _, ?_, fun b hb => ?_, hin, fun b o q1 q2 q3 q4 => ?_⟩
  · obtain ⟨mA, lc, t0, t1, t2, t3, ns, hs1, hs2, hl⟩ := hDat
    obtain ⟨oe, vs, T, oT, ts, he, ⟨hcl, _⟩, hd, _⟩ := hfl6.2.2.2
    obtain ⟨od, es, ep, eo, r⟩ := id ns
    have hdict : oe.dict = some dx := hD6.2 oe (by
      have q := he
      unfold Heap.get? at q
      split at q
      · cases q
      · exact q)
    have heL : e ≠ L' := fun z => by
      obtain ⟨o2, es2, ep2, e2, hd2, _⟩ := ns6
      have he2 : h6.get? L' = some oe := by rw [← z]; exact he
      have : o2 = oe := Option.some.inj (e2.symm.trans he2)
      rw [this, hd] at hd2
      cases hd2
    refine ⟨oe, od, dx, lc, t0, t1, t2, t3, ⟨(sb.2 e heL).trans he, hcl, by unfold notCls; rw [hd], by rw [hdict]; exact toB _ _ eo⟩, hdict, lookIn_of ns eo hs1, lookIn_of ns eo hs2, ?_⟩
    obtain ⟨ol, q1, q2⟩ := hl
    exact ⟨ol, toB _ _ q1, q2⟩
  · cases q : (cut B L').get? b with
    | none => rfl
    | some o => have := (cut_in q).1; rw [(hfl6.2.2.1.mem hb).1] at this; cases this
  · obtain ⟨s1, e1⟩ := hfs b o q1 q2 q4
    obtain ⟨s2, e2⟩ := hup4 b _ e1 q4
    obtain ⟨s3, e3⟩ := hup5 b _ e2 q4
    obtain ⟨s4, e4⟩ := hup6 b _ e3 q4
    exact ⟨s4, (sb.2 b q3).trans e4⟩
end
end
-- C2
noncomputable section
set_option maxRecDepth 100000

/-- entering a def, the end told bare -/
theorem enterT {w : World} {A A₀ : Around} {s : Shared} {L : Addr} {h₀ base : Heap} {m mg mb : Str → Option Value} {news : Led} {mean : ExcName → Option Value} {env : Env} {outer : List Env} {R : Result → Shared → Prop} {name qual : Str} {params : Arguments} {body : List Stmt} {scope : Scope} {dV kV doc pm cdv ct oc : Value} {an od : Option Addr} {osl : Array (Option Value)} {f : Addr} {args : Args} {binds : List (Str × Value)}
    (B : Below A₀ base outer h₀) (F : Fr h₀ L s.heap m) (X₀ : (K w.params).In h₀) (N : News h₀ L s.heap news) (T : Tp mean mg mb h₀) (hA : A.frames = some (env :: outer)) (hf : env.frame = some L) (hke : env.scope.kind = .function)
    (ho : (K w.params).lookup f = some ⟨oc, od, .func (fnOf name qual params body scope dV kV doc pm an cdv ct), osl⟩) (hcd : codeIn (K w.params) cdv qual = true) (hroom : A.depth < recursionLimit)
    (hbind : BindsTo s (fnOf name qual params body scope dV kV doc pm an cdv ct) args binds) (hloc : ∀ y ∈ binds, scope.names.lookup y.1 = some .local)
    (h : ∀ g L' h₁ tk, Fr h₀ L g m → Fr g L' h₁ (fun y => binds.reverse.lookup y) → News g L' h₁ news → Below A base (env :: outer) g → (K w.params).In g → Tp mean mg mb g →
      (∀ b o, s.heap.get? b = some o → (∀ p ∈ news, p.1 ≠ b) → g.get? b = some o) →
      wpAny (model Pg w) (A.deeper (envOf qual scope L' f cdv)) (execs body (envOf qual scope L' f cdv))
        (fun fl s' => R (.ok (.ret (match fl with | .ret v => v | _ => .none))) s')
        (fun e s' => wpAny (model Pg w) (A.deeper (envOf qual scope L' f cdv)) (leaving (envOf qual scope L' f cdv) e) (fun _ s'' => R (.error e) s'') (fun e' s'' => R (.error e') s'') s')
        { s with heap := h₁, toks := tk })
    (hco : scope.isCoroutine = false) (hgen : scope.isGenerator = false) (hk : scope.kind = .function)
    (hcell : ∀ x ∈ scope.names, x.2 ≠ .cell) : codeAny (model Pg w) A (.call (.ref f) args) R s := by
  obtain ⟨FG, BG, st, lv⟩ := groundX (R := R) B F N hA hf hke
  refine codeAny_call_def (fd := fnOf name qual params body scope dV kV doc pm an cdv ct) (body := body) (binds := binds) hroom ((X₀.keeps F.keep) _ _ ho) rfl (T.nolimit.keeps F.keep) (codeRec_of (X₀.keeps F.keep) hcd) rfl hbind hcell hloc (fun h₁ hns hk₁ => ?_) hco hgen hk
  have np : ∀ b, (∀ p ∈ news, p.1 ≠ b) → b ∉ news.map (·.1) := fun b n q => by
    obtain ⟨p, hp, e⟩ := List.mem_map.mp q
    exact n p hp e
  exact h _ s.heap.objs.size h₁ _ FG ⟨hns, fun b o e => hk₁ b o (of_hideAll _ e), Nat.le_of_eq (hideAll_size _ _)⟩
    (fun p hp => ⟨hk₁ _ _ (N p hp).1, Nat.ne_of_lt (Heap.lt_size (N p hp).1), hideAll_none _ (List.mem_map_of_mem hp)⟩) BG (X₀.keeps st) (T.keeps st)
    (fun b o e n => hideAll_get _ e (np b n))
theorem back_normal {h₀ g' hF : Heap} {L L' : Addr} {s : Shared} {m mF : Str → Option Value} {tp : Addr} {ob : Obj} (hg' : ∀ b o, s.heap.get? b = some o → (∀ p ∈ ([] : Led), p.1 ≠ b) → g'.get? b = some o) (FG : Fr h₀ L g' m) (F2 : Fr g' L' hF mF) (N2 : News g' L' hF [(tp, ob)]) :
    Fr h₀ L hF m ∧ News h₀ L hF [(tp, ob)] ∧ ∀ b o, s.heap.get? b = some o → b ≠ L → hF.get? b = some o := by
  have nT := N2 _ (.head _)
  obtain ⟨o, es, ep, q1, q2, q3, q4⟩ := FG.ns
  refine ⟨⟨⟨o, es, ep, F2.keep _ _ q1, q2, q3, q4⟩, fun b ob q => F2.keep _ _ (FG.keep b ob q), FG.above⟩, fun p hp => ?_, fun b ob e1 e2 => F2.keep _ _ (hg' b ob e1 (fun _ h => nomatch h))⟩
  rcases List.mem_cons.mp hp with rfl | hp
  · refine ⟨nT.1, fun z => ?_, ?_⟩
    · have := nT.2.2
      have z' : tp = L := z
      rw [z', q1] at this; cases this
    · cases q : h₀.get? tp with
      | none => rfl
      | some ob => have := FG.keep _ _ q; rw [nT.2.2] at this; cases this
  · cases hp
/-- what the law is told -/
noncomputable def ToldIs : Res → List Value → Prop
  | .at_ p, l => ∃ t u, l = [.str (Str.ofString "at") t, .int p u]
  | .none, l => ∃ t, l = [.str (Str.ofString "none") t]
  | .soon a b, l => ∃ t u v, l = [.str (Str.ofString "Containing expression ends prematurely") t, .int a u, .int b v]
  | .unbal a b, l => ∃ t u v, l = [.str (Str.ofString "Unbalanced parentheses") t, .int a u, .int b v]
theorem toldIs_sig {res : Res} {g : Sig} (h : TellsX res g) (t u v : Tok) : ToldIs res [.str g.msg t, .int g.good u, .int g.place v] := by
  cases res with
  | at_ p => exact h.elim
  | none => exact h.elim
  | soon a b => cases h; exact ⟨_, _, _, rfl⟩
  | unbal a b => cases h; exact ⟨_, _, _, rfl⟩
noncomputable def resOf (codes : List Int) (at_ count d : Int) (i : Bool) : Res := if i = true then scanR codes at_ count 0 true else scanR codes at_ count d false
theorem back_home {base hs h₀ g' g₂ hF : Heap} {L L' e : Addr} {g : Sig} {h7 : Heap} {s : Shared} {m : Str → Option Value} {mF m1 : Str → Option Value} {oL : Obj} {sl : Array (Option Value)} {tp : Addr} {items : Array Value} {n : Nat} {l : List Env}
    (F : Fr h₀ L s.heap m) (hg' : ∀ b o, s.heap.get? b = some o → (∀ p ∈ ([] : Led), p.1 ≠ b) → g'.get? b = some o) (F1 : Fr g' L' hs m1) (C : Caught base hs h₀ l e L' g g₂ h7) (hl : ∀ b, b ∈ frs l ↔ b = L' ∨ b = L)
    (hoL : s.heap.get? L = some oL) (F2 : Fr g₂ L' hF mF) (N2 : News g₂ L' hF [(tp, { cls := .type "tuple", data := .seq items n }), (L, { oL with slots := sl })]) :
    Fr h₀ L hF m ∧ News h₀ L hF [(tp, { cls := .type "tuple", data := .seq items n })] ∧ ∀ b o, s.heap.get? b = some o → b ≠ L → hF.get? b = some o := by
  have nL := N2 _ (.tail _ (.head _))
  have nT := N2 _ (.head _)
  obtain ⟨o, es, ep, q1, q2, q3, q4⟩ := F.ns
  have : o = oL := Option.some.inj (q1.symm.trans hoL)
  subst this
  refine ⟨⟨⟨_, es, ep, nL.1, q2, q3, q4⟩, fun b ob q => F2.keep _ _ (C.ground b ob q), F.above⟩, fun p hp => ?_, fun b ob e1 e2 => ?_⟩
  · rcases List.mem_cons.mp hp with rfl | hp
    · refine ⟨nT.1, fun z => ?_, ?_⟩
      · have h1 := nT.1
        have z' : tp = L := z
        have h2 : hF.get? tp = some { o with slots := sl } := by rw [z']; exact nL.1
        have h3 := Option.some.inj (h1.symm.trans h2)
        have h4 : o.data = .seq items n := by rw [show o.data = ({ o with slots := sl } : Obj).data from rfl, ← h3]
        rw [q2] at h4
        cases h4
      · cases q : h₀.get? tp with
        | none => rfl
        | some ob => have := C.ground _ _ q; rw [nT.2.2] at this; cases this
    · cases hp
  · have e3 := hg' b ob e1 (fun _ h => nomatch h)
    have hlt : b < L' := Nat.lt_of_lt_of_le (Heap.lt_size e3) F1.above
    exact F2.keep _ _ (C.kept b ob (F1.keep _ _ e3) (fun hm => ((hl b).mp hm).elim (fun z => Nat.ne_of_lt hlt z) e2) hlt)
set_option maxHeartbeats 8000000 in
theorem told {w : World} {codes : List Int} {e : Ar} {at_ count d : Int} {ta tb tc : Tok} {i : Bool} (hc : Codes codes) (hp : 1 ≤ at_ ∧ at_ ≤ 1 + codes.length)
    {mean : ExcName → Option Value} {mg mb : Str → Option Value} {dp un : Nat} {gd : Option (List Code)} {cn : Str} {cs : Scope} {a : Addr} {ccd : Value} {cl : List (Str × Addr)} {A₀ : Around} {base h₀ : Heap} {L : Addr} {m : Str → Option Value} {s : Shared} {Q E : Value → Shared → Prop}
    (B : Below A₀ base [] h₀) (F : Fr h₀ L s.heap m) (X : (K w.params).In h₀) (T : Tp mean mg mb h₀) (hk : cs.kind = .function) (hP : IsAr w codes e s.heap) (hd : dp + 15 < recursionLimit) (hu : un + 300 < cLine)
    (hret : ∀ tp items n h' tk', Fr h₀ L h' m → News h₀ L h' [(tp, { cls := .type "tuple", data := .seq items n })] → (∀ b o, s.heap.get? b = some o → b ≠ L → h'.get? b = some o) → ToldIs (resOf codes at_ count d i) items.toList → Q (.ref tp) { s with heap := h', toks := tk' }) :
    wpAny (model Pg w) (ktrTop dp un gd cn cs L a ccd cl []) (call (.ref 693) [.ref e.v, .ref e.t, .int at_ ta, .int count tb, .int d tc, .bool i]) Q E s := by
  refine wpAny_call ?_
  have N : News h₀ L s.heap [] := News.nil
  k_dflt (refine' enterT (binds := [(Str.ofString "view", .ref e.v), (Str.ofString "table", .ref e.t), (Str.ofString "at", .int at_ ta), (Str.ofString "count", .int count tb), (Str.ofString "depth", .int d tc), (Str.ofString "is_expression", .bool i)]) ?k1 ?k2 ?k3 ?k4 ?k5 ?kA ?kF ?kK ?k6 ?k7 ?k8 ?k9 ?kB ?_ ?c2 ?c3 ?c4 ?c5; (case kA => exact rfl); (case kF => exact rfl); (case kK => assumption); (case k1 => k_asm); (case k2 => k_asm); (case k3 => k_asm); (case k4 => k_asm); (case k5 => k_asm); (case k6 => k_is); (case k7 => k_is); (case k8 => ktr_room); (case k9 => first | exact BindsTo.of_eq rfl | exact binds_K (by k_in) rfl (by k_is) rfl rfl rfl); (case c5 => decide); (case kB => exact locs rfl); (case c2 => exact rfl); (case c3 => exact rfl); (case c4 => exact rfl); k_whole; intro g' L' h' tk0 FG' F' N' B' X' T' hg'; (try dsimp only); (try k_fold); (try (refine letA ?_; intro Ak)))
  have hAR : IsAr w codes e g' := isAr_mono _ _ _ _ _ (fun b o e => hg' b o e (fun _ h => nomatch h)) hP
  (repeat' (first | (k_unfold; (try dsimp only)) | (k_end; kc_close) | ((with_reducible show wpAny _ _ (execs (_ :: _) _) _ _ _); (with_reducible refine wpAny_execs_cons ?_); first | k_fold | (try dsimp only)) | (k_closed; first | ((with_reducible refine ite_pos ?_ ?_); (focus (k_dflt decide))) | ((with_reducible refine ite_neg ?_ ?_); (focus (k_dflt decide)))) | ((with_reducible show wpAny _ _ (call (.ref _) _) _ _ _); first | ((with_reducible show wpAny _ _ (call (.ref 600) _) _ _ _); (refine halt ?_)) | ((with_reducible show wpAny _ _ (call (.ref 593) _) _ _ _); (refine halt ?_))) | ((with_reducible show wpAny _ _ (do bindName (envOf _ _ _ _ _) _ Value.none; unbindBehindTheSuite (envOf _ _ _ _ _) _ _) _ _ _); refine name_goes_keeps (by assumption) (by assumption) ?_; intro _ _ _ _) | ((with_reducible show wpAny _ _ (getAttr (.ref _) _ _) _ _ _); (k_here; k_dflt (refine' get_exc ?qF ?qX ?qI ?ql ?qh ?qa ?_; (case qF => k_asm); (case qX => k_asm); (case qI => assumption); (case ql => assumption); (case qh => k_handed); (case qa => k_is)))) | ((with_reducible show wpAny _ _ (exec (.While _ _ _ _) _) _ _ _); refine halt ?_) | ((with_reducible show wpAny _ _ (exec (.For _ _ _ _ _) _) _ _ _); refine halt ?_) | ((with_reducible show wpAny _ _ (eval (.Name _ _) _) _ _ _); k_here; k_dflt (refine' ld ?k1 ?k2 ?_; (case k1 => k_asm); (case k2 => first | with_reducible assumption | exact rfl | assumption); k_whole)) | walk1 | (dsimp only; with_reducible show wpAny _ _ (call (.ref _) _) _ _ _) | (dsimp only; walk1) | (leave1; (try dsimp only))))
  · refine unhalt ?_
    have hres : resOf codes at_ count d i = scanR codes at_ count 0 true := by unfold resOf; rw [if_pos (by assumption)]
    rw [hres] at hret
    rename Fr g' L' _ _ => F5
    k_dflt (refine' DoesR.led (scan_sexps_does w codes e at_ count _ _ hc hp) ?uB ?uF ?uX ?uN ?usub ?uT ?uk ?uP ?ud ?uu ?uK ?uE; (case uB => k_asm); (case uF => k_asm); (case uX => k_asm); (case uN => exact News.nil); (case usub => exact List.forall_mem_nil _); (case uT => k_asm); (case uk => exact rfl); (case uP => exact hAR); (case ud => ktr_room); (case uu => ktr_units))
    case uK =>
      intro r nx h2 tk2 F2 N2 hR
      obtain ⟨rfl, hT⟩ := hR
      k_sweep
      dsimp only
      cases hq : scanR codes at_ count 0 true with
      | at_ p =>
        rw [hq] at hT
        obtain ⟨tt, rfl⟩ := hT
        rw [hq] at hret
        (repeat' (first | (k_unfold; (try dsimp only)) | (k_end; kc_close) | ((with_reducible show wpAny _ _ (execs (_ :: _) _) _ _ _); (with_reducible refine wpAny_execs_cons ?_); first | k_fold | (try dsimp only)) | (k_closed; first | ((with_reducible refine ite_pos ?_ ?_); (focus (k_dflt decide))) | ((with_reducible refine ite_neg ?_ ?_); (focus (k_dflt decide)))) | ((with_reducible show wpAny _ _ (call (.ref _) _) _ _ _); first | ((with_reducible show wpAny _ _ (call (.ref 600) _) _ _ _); (refine halt ?_)) | ((with_reducible show wpAny _ _ (call (.ref 593) _) _ _ _); (refine halt ?_))) | ((with_reducible show wpAny _ _ (do bindName (envOf _ _ _ _ _) _ Value.none; unbindBehindTheSuite (envOf _ _ _ _ _) _ _) _ _ _); refine name_goes_keeps (by assumption) (by assumption) ?_; intro _ _ _ _) | ((with_reducible show wpAny _ _ (getAttr (.ref _) _ _) _ _ _); (k_here; k_dflt (refine' get_exc ?qF ?qX ?qI ?ql ?qh ?qa ?_; (case qF => k_asm); (case qX => k_asm); (case qI => assumption); (case ql => assumption); (case qh => k_handed); (case qa => k_is)))) | ((with_reducible show wpAny _ _ (exec (.While _ _ _ _) _) _ _ _); refine halt ?_) | ((with_reducible show wpAny _ _ (exec (.For _ _ _ _ _) _) _ _ _); refine halt ?_) | ((with_reducible show wpAny _ _ (eval (.Name _ _) _) _ _ _); k_here; k_dflt (refine' ld ?k1 ?k2 ?_; (case k1 => k_asm); (case k2 => first | with_reducible assumption | exact rfl | assumption); k_whole)) | walk1 | (dsimp only; with_reducible show wpAny _ _ (call (.ref _) _) _ _ _) | (dsimp only; walk1) | (leave1; (try dsimp only))))
        rename News g' L' _ _ => kN
        obtain ⟨z1, z2, z3⟩ := back_normal hg' FG' (by assumption) kN
        exact hret _ _ _ _ _ z1 z2 z3 ⟨_, _, rfl⟩
      | none =>
        rw [hq] at hT
        have hT2 : r = .none := hT
        subst hT2
        rw [hq] at hret
        (repeat' (first | (k_unfold; (try dsimp only)) | (k_end; kc_close) | ((with_reducible show wpAny _ _ (execs (_ :: _) _) _ _ _); (with_reducible refine wpAny_execs_cons ?_); first | k_fold | (try dsimp only)) | (k_closed; first | ((with_reducible refine ite_pos ?_ ?_); (focus (k_dflt decide))) | ((with_reducible refine ite_neg ?_ ?_); (focus (k_dflt decide)))) | ((with_reducible show wpAny _ _ (call (.ref _) _) _ _ _); first | ((with_reducible show wpAny _ _ (call (.ref 600) _) _ _ _); (refine halt ?_)) | ((with_reducible show wpAny _ _ (call (.ref 593) _) _ _ _); (refine halt ?_))) | ((with_reducible show wpAny _ _ (do bindName (envOf _ _ _ _ _) _ Value.none; unbindBehindTheSuite (envOf _ _ _ _ _) _ _) _ _ _); refine name_goes_keeps (by assumption) (by assumption) ?_; intro _ _ _ _) | ((with_reducible show wpAny _ _ (getAttr (.ref _) _ _) _ _ _); (k_here; k_dflt (refine' get_exc ?qF ?qX ?qI ?ql ?qh ?qa ?_; (case qF => k_asm); (case qX => k_asm); (case qI => assumption); (case ql => assumption); (case qh => k_handed); (case qa => k_is)))) | ((with_reducible show wpAny _ _ (exec (.While _ _ _ _) _) _ _ _); refine halt ?_) | ((with_reducible show wpAny _ _ (exec (.For _ _ _ _ _) _) _ _ _); refine halt ?_) | ((with_reducible show wpAny _ _ (eval (.Name _ _) _) _ _ _); k_here; k_dflt (refine' ld ?k1 ?k2 ?_; (case k1 => k_asm); (case k2 => first | with_reducible assumption | exact rfl | assumption); k_whole)) | walk1 | (dsimp only; with_reducible show wpAny _ _ (call (.ref _) _) _ _ _) | (dsimp only; walk1) | (leave1; (try dsimp only))))
        rename News g' L' _ _ => kN
        obtain ⟨z1, z2, z3⟩ := back_normal hg' FG' (by assumption) kN
        exact hret _ _ _ _ _ z1 z2 z3 ⟨_, rfl⟩
      | soon _ _ => rw [hq] at hT; exact hT.elim
      | unbal _ _ => rw [hq] at hT; exact hT.elim
    case uE =>
      intro e2 g2 h2 tk2 TH hX
      refine caught_sig (outer' := [envX cn cs L a ccd cl]) rfl rfl TH F5.ns (fun b o q => ?_) X T ?_ rfl rfl
      · have q1 := F.keep _ _ q
        have q2 := hg' _ _ q1 (fun _ h => nomatch h)
        refine ⟨F5.keep _ _ q2, Nat.lt_of_lt_of_le (Heap.lt_size q2) F5.above, fun hm => ?_⟩
        rcases List.mem_cons.mp hm with z | z
        · rw [z, none_above F] at q; cases q
        · cases z
      intro h7 g₂ tk7 F7 C
      (refine cps ?_; intro G9 out9)
      obtain ⟨oe, od, dx, lc, t0, t1, t2, t3, I, hdict, l1, l2, hl⟩ := C.all
      (refine out9 ?_; clear out9 G9)
      (refine cps ?_; intro G9 out9)
      obtain ⟨oL, esL, epL, hoL, hdL, _⟩ := F.ns
      (refine out9 ?_; clear out9 G9)
      obtain ⟨sl, hoL7⟩ := C.frames L oL (F5.keep _ _ (hg' _ _ hoL (fun _ h => nomatch h))) (by rw [frs_cons (L := L') rfl]; exact .tail _ (.head _)) (fun z => by have := hg' _ _ hoL (fun _ h => nomatch h); rw [z, none_above F5] at this; cases this) (fun vs q => by rw [hdL] at q; cases q)
      have N7 : News g₂ L' h7 [(L, { oL with slots := sl })] := news_cons hoL7 (fun z => by have := hg' _ _ hoL (fun _ h => nomatch h); rw [z, none_above F5] at this; cases this) (C.apart L (by rw [frs_cons (L := L') rfl]; exact .tail _ (.head _))) News.nil
      have X7 := X.keeps C.ground
      have T7 : Tp mean mg mb g₂ := T.keeps C.ground
      (repeat' (first | (k_unfold; (try dsimp only)) | (k_end; kc_close) | ((with_reducible show wpAny _ _ (execs (_ :: _) _) _ _ _); (with_reducible refine wpAny_execs_cons ?_); first | k_fold | (try dsimp only)) | (k_closed; first | ((with_reducible refine ite_pos ?_ ?_); (focus (k_dflt decide))) | ((with_reducible refine ite_neg ?_ ?_); (focus (k_dflt decide)))) | ((with_reducible show wpAny _ _ (call (.ref _) _) _ _ _); first | ((with_reducible show wpAny _ _ (call (.ref 600) _) _ _ _); (refine halt ?_)) | ((with_reducible show wpAny _ _ (call (.ref 593) _) _ _ _); (refine halt ?_))) | ((with_reducible show wpAny _ _ (do bindName (envOf _ _ _ _ _) _ Value.none; unbindBehindTheSuite (envOf _ _ _ _ _) _ _) _ _ _); refine name_goes_keeps (by assumption) (by assumption) ?_; intro _ _ _ _) | ((with_reducible show wpAny _ _ (getAttr (.ref _) _ _) _ _ _); (k_here; k_dflt (refine' get_exc ?qF ?qX ?qI ?ql ?qh ?qa ?_; (case qF => k_asm); (case qX => k_asm); (case qI => assumption); (case ql => assumption); (case qh => k_handed); (case qa => k_is)))) | ((with_reducible show wpAny _ _ (exec (.While _ _ _ _) _) _ _ _); refine halt ?_) | ((with_reducible show wpAny _ _ (exec (.For _ _ _ _ _) _) _ _ _); refine halt ?_) | ((with_reducible show wpAny _ _ (eval (.Name _ _) _) _ _ _); k_here; k_dflt (refine' ld ?k1 ?k2 ?_; (case k1 => k_asm); (case k2 => first | with_reducible assumption | exact rfl | assumption); k_whole)) | walk1 | (dsimp only; with_reducible show wpAny _ _ (call (.ref _) _) _ _ _) | (dsimp only; walk1) | (leave1; (try dsimp only))))
      obtain ⟨z1, z2, z3⟩ := back_home F hg' F5 C (fun b => by rw [frs_cons (L := L') rfl, frs_cons (L := L) rfl]; simp [frs]) hoL (by assumption) (by assumption)
      exact hret _ _ _ _ _ z1 z2 z3 (toldIs_sig hX _ _ _)
  · refine unhalt ?_
    have hres : resOf codes at_ count d i = scanR codes at_ count d false := by unfold resOf; rw [if_neg (by rw [(by assumption : i = false)]; decide)]
    rw [hres] at hret
    rename Fr g' L' _ _ => F5
    k_dflt (refine' DoesR.led (scan_lists_does w codes e at_ count d _ _ _ hc hp) ?uB ?uF ?uX ?uN ?usub ?uT ?uk ?uP ?ud ?uu ?uK ?uE; (case uB => k_asm); (case uF => k_asm); (case uX => k_asm); (case uN => exact News.nil); (case usub => exact List.forall_mem_nil _); (case uT => k_asm); (case uk => exact rfl); (case uP => exact hAR); (case ud => ktr_room); (case uu => ktr_units))
    case uK =>
      intro r nx h2 tk2 F2 N2 hR
      obtain ⟨rfl, hT⟩ := hR
      k_sweep
      dsimp only
      cases hq : scanR codes at_ count d false with
      | at_ p =>
        rw [hq] at hT
        obtain ⟨tt, rfl⟩ := hT
        rw [hq] at hret
        (repeat' (first | (k_unfold; (try dsimp only)) | (k_end; kc_close) | ((with_reducible show wpAny _ _ (execs (_ :: _) _) _ _ _); (with_reducible refine wpAny_execs_cons ?_); first | k_fold | (try dsimp only)) | (k_closed; first | ((with_reducible refine ite_pos ?_ ?_); (focus (k_dflt decide))) | ((with_reducible refine ite_neg ?_ ?_); (focus (k_dflt decide)))) | ((with_reducible show wpAny _ _ (call (.ref _) _) _ _ _); first | ((with_reducible show wpAny _ _ (call (.ref 600) _) _ _ _); (refine halt ?_)) | ((with_reducible show wpAny _ _ (call (.ref 593) _) _ _ _); (refine halt ?_))) | ((with_reducible show wpAny _ _ (do bindName (envOf _ _ _ _ _) _ Value.none; unbindBehindTheSuite (envOf _ _ _ _ _) _ _) _ _ _); refine name_goes_keeps (by assumption) (by assumption) ?_; intro _ _ _ _) | ((with_reducible show wpAny _ _ (getAttr (.ref _) _ _) _ _ _); (k_here; k_dflt (refine' get_exc ?qF ?qX ?qI ?ql ?qh ?qa ?_; (case qF => k_asm); (case qX => k_asm); (case qI => assumption); (case ql => assumption); (case qh => k_handed); (case qa => k_is)))) | ((with_reducible show wpAny _ _ (exec (.While _ _ _ _) _) _ _ _); refine halt ?_) | ((with_reducible show wpAny _ _ (exec (.For _ _ _ _ _) _) _ _ _); refine halt ?_) | ((with_reducible show wpAny _ _ (eval (.Name _ _) _) _ _ _); k_here; k_dflt (refine' ld ?k1 ?k2 ?_; (case k1 => k_asm); (case k2 => first | with_reducible assumption | exact rfl | assumption); k_whole)) | walk1 | (dsimp only; with_reducible show wpAny _ _ (call (.ref _) _) _ _ _) | (dsimp only; walk1) | (leave1; (try dsimp only))))
        rename News g' L' _ _ => kN
        obtain ⟨z1, z2, z3⟩ := back_normal hg' FG' (by assumption) kN
        exact hret _ _ _ _ _ z1 z2 z3 ⟨_, _, rfl⟩
      | none =>
        rw [hq] at hT
        have hT2 : r = .none := hT
        subst hT2
        rw [hq] at hret
        (repeat' (first | (k_unfold; (try dsimp only)) | (k_end; kc_close) | ((with_reducible show wpAny _ _ (execs (_ :: _) _) _ _ _); (with_reducible refine wpAny_execs_cons ?_); first | k_fold | (try dsimp only)) | (k_closed; first | ((with_reducible refine ite_pos ?_ ?_); (focus (k_dflt decide))) | ((with_reducible refine ite_neg ?_ ?_); (focus (k_dflt decide)))) | ((with_reducible show wpAny _ _ (call (.ref _) _) _ _ _); first | ((with_reducible show wpAny _ _ (call (.ref 600) _) _ _ _); (refine halt ?_)) | ((with_reducible show wpAny _ _ (call (.ref 593) _) _ _ _); (refine halt ?_))) | ((with_reducible show wpAny _ _ (do bindName (envOf _ _ _ _ _) _ Value.none; unbindBehindTheSuite (envOf _ _ _ _ _) _ _) _ _ _); refine name_goes_keeps (by assumption) (by assumption) ?_; intro _ _ _ _) | ((with_reducible show wpAny _ _ (getAttr (.ref _) _ _) _ _ _); (k_here; k_dflt (refine' get_exc ?qF ?qX ?qI ?ql ?qh ?qa ?_; (case qF => k_asm); (case qX => k_asm); (case qI => assumption); (case ql => assumption); (case qh => k_handed); (case qa => k_is)))) | ((with_reducible show wpAny _ _ (exec (.While _ _ _ _) _) _ _ _); refine halt ?_) | ((with_reducible show wpAny _ _ (exec (.For _ _ _ _ _) _) _ _ _); refine halt ?_) | ((with_reducible show wpAny _ _ (eval (.Name _ _) _) _ _ _); k_here; k_dflt (refine' ld ?k1 ?k2 ?_; (case k1 => k_asm); (case k2 => first | with_reducible assumption | exact rfl | assumption); k_whole)) | walk1 | (dsimp only; with_reducible show wpAny _ _ (call (.ref _) _) _ _ _) | (dsimp only; walk1) | (leave1; (try dsimp only))))
        rename News g' L' _ _ => kN
        obtain ⟨z1, z2, z3⟩ := back_normal hg' FG' (by assumption) kN
        exact hret _ _ _ _ _ z1 z2 z3 ⟨_, rfl⟩
      | soon _ _ => rw [hq] at hT; exact hT.elim
      | unbal _ _ => rw [hq] at hT; exact hT.elim
    case uE =>
      intro e2 g2 h2 tk2 TH hX
      refine caught_sig (outer' := [envX cn cs L a ccd cl]) rfl rfl TH F5.ns (fun b o q => ?_) X T ?_ rfl rfl
      · have q1 := F.keep _ _ q
        have q2 := hg' _ _ q1 (fun _ h => nomatch h)
        refine ⟨F5.keep _ _ q2, Nat.lt_of_lt_of_le (Heap.lt_size q2) F5.above, fun hm => ?_⟩
        rcases List.mem_cons.mp hm with z | z
        · rw [z, none_above F] at q; cases q
        · cases z
      intro h7 g₂ tk7 F7 C
      (refine cps ?_; intro G9 out9)
      obtain ⟨oe, od, dx, lc, t0, t1, t2, t3, I, hdict, l1, l2, hl⟩ := C.all
      (refine out9 ?_; clear out9 G9)
      (refine cps ?_; intro G9 out9)
      obtain ⟨oL, esL, epL, hoL, hdL, _⟩ := F.ns
      (refine out9 ?_; clear out9 G9)
      obtain ⟨sl, hoL7⟩ := C.frames L oL (F5.keep _ _ (hg' _ _ hoL (fun _ h => nomatch h))) (by rw [frs_cons (L := L') rfl]; exact .tail _ (.head _)) (fun z => by have := hg' _ _ hoL (fun _ h => nomatch h); rw [z, none_above F5] at this; cases this) (fun vs q => by rw [hdL] at q; cases q)
      have N7 : News g₂ L' h7 [(L, { oL with slots := sl })] := news_cons hoL7 (fun z => by have := hg' _ _ hoL (fun _ h => nomatch h); rw [z, none_above F5] at this; cases this) (C.apart L (by rw [frs_cons (L := L') rfl]; exact .tail _ (.head _))) News.nil
      have X7 := X.keeps C.ground
      have T7 : Tp mean mg mb g₂ := T.keeps C.ground
      (repeat' (first | (k_unfold; (try dsimp only)) | (k_end; kc_close) | ((with_reducible show wpAny _ _ (execs (_ :: _) _) _ _ _); (with_reducible refine wpAny_execs_cons ?_); first | k_fold | (try dsimp only)) | (k_closed; first | ((with_reducible refine ite_pos ?_ ?_); (focus (k_dflt decide))) | ((with_reducible refine ite_neg ?_ ?_); (focus (k_dflt decide)))) | ((with_reducible show wpAny _ _ (call (.ref _) _) _ _ _); first | ((with_reducible show wpAny _ _ (call (.ref 600) _) _ _ _); (refine halt ?_)) | ((with_reducible show wpAny _ _ (call (.ref 593) _) _ _ _); (refine halt ?_))) | ((with_reducible show wpAny _ _ (do bindName (envOf _ _ _ _ _) _ Value.none; unbindBehindTheSuite (envOf _ _ _ _ _) _ _) _ _ _); refine name_goes_keeps (by assumption) (by assumption) ?_; intro _ _ _ _) | ((with_reducible show wpAny _ _ (getAttr (.ref _) _ _) _ _ _); (k_here; k_dflt (refine' get_exc ?qF ?qX ?qI ?ql ?qh ?qa ?_; (case qF => k_asm); (case qX => k_asm); (case qI => assumption); (case ql => assumption); (case qh => k_handed); (case qa => k_is)))) | ((with_reducible show wpAny _ _ (exec (.While _ _ _ _) _) _ _ _); refine halt ?_) | ((with_reducible show wpAny _ _ (exec (.For _ _ _ _ _) _) _ _ _); refine halt ?_) | ((with_reducible show wpAny _ _ (eval (.Name _ _) _) _ _ _); k_here; k_dflt (refine' ld ?k1 ?k2 ?_; (case k1 => k_asm); (case k2 => first | with_reducible assumption | exact rfl | assumption); k_whole)) | walk1 | (dsimp only; with_reducible show wpAny _ _ (call (.ref _) _) _ _ _) | (dsimp only; walk1) | (leave1; (try dsimp only))))
      obtain ⟨z1, z2, z3⟩ := back_home F hg' F5 C (fun b => by rw [frs_cons (L := L') rfl, frs_cons (L := L) rfl]; simp [frs]) hoL (by assumption) (by assumption)
      exact hret _ _ _ _ _ z1 z2 z3 (toldIs_sig hX _ _ _)
end
-- D1
noncomputable section
set_option maxRecDepth 100000

noncomputable def codesOf (row : Str) : List Int := row.cps.toList.map Int.ofNat
theorem codes_len (row : Str) : (codesOf row).length = row.length := by
  unfold codesOf
  rw [List.length_map]
  exact Array.length_toList
/-- the sign at a place, as a number -/
@[irreducible] def chN (row : Str) (i : Int) : Nat := row.cps.getD i.toNat 0
theorem chN_eq {row : Str} {i : Int} (h : 0 ≤ i) (h2 : i < row.length) : (chN row i : Int) = cAt (codesOf row) (i + 1) := by
  have hl : i.toNat < row.cps.toList.length := by rw [Array.length_toList]; have : (row.length : Int) = row.cps.size := rfl; omega
  unfold cAt
  rw [codes_len, if_pos (by omega)]
  unfold chN codesOf
  rw [List.getD_eq_getElem?_getD, List.getElem?_map, show (i + 1 - 1).toNat = i.toNat by omega, List.getElem?_eq_getElem hl, Array.getD_eq_getD_getElem?, ← Array.getElem?_toList, List.getElem?_eq_getElem hl]
  rfl
theorem ch_is {c : Nat} {k : Nat} : ((⟨#[c]⟩ : Str) == ⟨#[k]⟩) = decide (c = k) := by
  by_cases h : c = k
  · subst h; simp
  · rw [decide_eq_false h]
    refine beq_eq_false_iff_ne.mpr fun q => h ?_
    have := congrArg (fun s : Str => s.cps.toList) q
    simpa using this
section
variable {prog : Program} {w : World} {A : Around} {E : Value → Shared → Prop} {s : Shared}
theorem len_row {x : Str} {t : Tok} {Q : Value → Shared → Prop} (hx : x.length ≤ 90) (h : Q (.int x.length (s.toks + 1)) { s with toks := s.toks + 1 + 1 }) : wpAny (model prog w) A (call (.builtin "len") [.str x t]) Q E s :=
  PySem.P.len_str (by omega) h
end
theorem item_eq {row : Str} {p : Int} (h : 0 ≤ p) (h2 : p < row.length) : Txt.item row p = ⟨#[chN row p]⟩ := by
  rw [item_meets ⟨h, h2⟩]
  unfold chN
  rfl
theorem item_is {row : Str} {p : Int} {k : Nat} (h : 0 ≤ p) (h2 : p < row.length) : (Txt.item row p == ⟨#[k]⟩) = decide (cAt (codesOf row) (p + 1) = (k : Int)) := by
  rw [item_eq h h2, ch_is, ← chN_eq h h2]
  by_cases q : chN row p = k
  · rw [decide_eq_true q, decide_eq_true (by omega)]
  · rw [decide_eq_false q, decide_eq_false (by omega)]
theorem S_a : S "a" = ⟨#[97]⟩ := by decide +kernel
theorem S_o : S "(" = ⟨#[40]⟩ := by decide +kernel
theorem S_c : S ")" = ⟨#[41]⟩ := by decide +kernel
set_option maxHeartbeats 8000000 in
theorem law_word_end_does (w : World) (row : Str) (at_ : Int) (tr ta : Tok) (hl : row.length ≤ 90) (hp : 0 ≤ at_ ∧ at_ ≤ row.length) :
    Does w 1 8 Any 667 [.str row tr, .int at_ ta] [] (fun r nx => nx = [] ∧ IsI r (wend (codesOf row) (at_ + 1) - 1)) := by
  unfold Does
  intro mean mg mb dp un gd cn cs a ccd cl outer A₀ base h₀ L m s g₀ Q E B F X N T hk hP st dj hd hu hret
  refine wpAny_call ?_
  k_dflt (refine' enter (binds := [(Str.ofString "row", .str row tr), (Str.ofString "at", .int at_ ta)]) ?k1 ?k2 ?k3 ?k4 ?k5 ?kA ?kF ?kK ?k6 ?k7 ?k8 ?k9 ?kB ?_ ?c2 ?c3 ?c4 ?c5; (case kA => exact rfl); (case kF => exact rfl); (case kK => assumption); (case k1 => k_asm); (case k2 => k_asm); (case k3 => k_asm); (case k4 => k_asm); (case k5 => k_asm); (case k6 => k_is); (case k7 => k_is); (case k8 => ktr_room); (case k9 => first | exact BindsTo.of_eq rfl | exact binds_K (by k_in) rfl (by k_is) rfl rfl rfl); (case c5 => decide); (case kB => exact locs rfl); (case c2 => exact rfl); (case c3 => exact rfl); (case c4 => exact rfl); k_whole; intro g' L' h' tk0 FG' F' N' B' X' T' hg'; (try dsimp only); (try k_fold); (try (refine letA ?_; intro Ak)))
  clear hP st dj
  (repeat' (first | (k_unfold; (try dsimp only)) | (k_end; kc_close) | ((with_reducible show wpAny _ _ (execs (_ :: _) _) _ _ _); (with_reducible refine wpAny_execs_cons ?_); first | k_fold | (try dsimp only)) | (k_closed; first | ((with_reducible refine ite_pos ?_ ?_); (focus (k_dflt decide))) | ((with_reducible refine ite_neg ?_ ?_); (focus (k_dflt decide)))) | ((with_reducible show wpAny _ _ (call (.builtin "len") _) _ _ _); (k_here; (with_reducible show wpAny _ _ (call (Value.builtin "len") [Value.str _ _]) _ _ _); k_dflt (refine' len_row ?qf ?_; (case qf => assumption); k_whole))) | ((with_reducible show wpAny _ _ (exec (.While _ _ _ _) _) _ _ _); refine halt ?_) | ((with_reducible show wpAny _ _ (exec (.For _ _ _ _ _) _) _ _ _); refine halt ?_) | ((with_reducible show wpAny _ _ (eval (.Name _ _) _) _ _ _); k_here; k_dflt (refine' ld ?k1 ?k2 ?_; (case k1 => k_asm); (case k2 => first | with_reducible assumption | exact rfl | assumption); k_whole)) | walk1 | (dsimp only; walk1) | (leave1; (try dsimp only))))
  refine unhalt ?_
  refine' While_start (fun n m₁ news₁ => news₁ = [] ∧ m₁ (Str.ofString "row") = some (.str row tr) ∧ ∃ (p : Int) (t : Tok), m₁ (Str.ofString "at") = some (.int p t) ∧ 0 ≤ p ∧ p ≤ row.length ∧ wendN (codesOf row) n (p + 1) = wend (codesOf row) (at_ + 1) ∧ (row.length : Int) - p < n) (n₀ := 100) ?iF ?iS ?_
  case iF => assumption
  case iS => exact ⟨[], News.nil, rfl, by rfl, at_, _, by rfl, hp.1, hp.2, rfl, by omega⟩
  intro n m₁ news₁ h₁ tk₁ F₁ N₁ hI9
  (try k_fold)
  (refine cps ?_; intro G9 out9)
  obtain ⟨rfl, a1, p, t, a2, b1, b2, b3, b4⟩ := hI9
  (refine out9 ?_; clear out9 G9)
  obtain ⟨k, rfl⟩ : ∃ k, n = k + 1 := ⟨n - 1, by omega⟩
  (repeat' (first | (k_unfold; (try dsimp only)) | (k_end; kc_close) | ((with_reducible show wpAny _ _ (execs (_ :: _) _) _ _ _); (with_reducible refine wpAny_execs_cons ?_); first | k_fold | (try dsimp only)) | (k_closed; first | ((with_reducible refine ite_pos ?_ ?_); (focus (k_dflt decide))) | ((with_reducible refine ite_neg ?_ ?_); (focus (k_dflt decide)))) | ((with_reducible show wpAny _ _ (call (.builtin "len") _) _ _ _); (k_here; (with_reducible show wpAny _ _ (call (Value.builtin "len") [Value.str _ _]) _ _ _); k_dflt (refine' len_row ?qf ?_; (case qf => assumption); k_whole))) | ((with_reducible show wpAny _ _ (exec (.While _ _ _ _) _) _ _ _); refine halt ?_) | ((with_reducible show wpAny _ _ (exec (.For _ _ _ _ _) _) _ _ _); refine halt ?_) | ((with_reducible show wpAny _ _ (eval (.Name _ _) _) _ _ _); k_here; k_dflt (refine' ld ?k1 ?k2 ?_; (case k1 => k_asm); (case k2 => first | with_reducible assumption | exact rfl | assumption); k_whole)) | walk1 | (dsimp only; walk1) | (leave1; (try dsimp only))))
  · rename (_ == _) = true => hq
    rw [show Str.ofString "a" = ⟨#[97]⟩ from S_a, item_is b1 (by assumption)] at hq
    rw [wendN, if_pos (show cAt (codesOf row) (p + 1) = 97 from of_decide_eq_true hq)] at b3
    (dsimp only [WhileStep2]; refine' ⟨_, _, _, _, k, rfl, ?wF, ?wN, ?wlt, ?_⟩; (case wF => assumption); (case wN => assumption); (case wlt => omega))
    exact ⟨rfl, a1, p + 1, _, by rfl, by omega, by omega, b3, by omega⟩
  · rename (_ == _) = false => hq
    rw [show Str.ofString "a" = ⟨#[97]⟩ from S_a, item_is b1 (by assumption)] at hq
    rw [wendN, if_neg (show ¬ cAt (codesOf row) (p + 1) = 97 from of_decide_eq_false hq)] at b3
    refine hret _ [] _ _ (by assumption) News.nil (Kept.of_frame hg' (by assumption)) ⟨rfl, ?_⟩
    rw [← b3]
    exact IsI.of (by omega)
  · have hpe : p + 1 = 1 + ((codesOf row).length : Int) := by rw [codes_len]; omega
    rw [hpe, wendN, cAt_end, if_neg (by decide), ← hpe] at b3
    refine hret _ [] _ _ (by assumption) News.nil (Kept.of_frame hg' (by assumption)) ⟨rfl, ?_⟩
    rw [← b3]
    exact IsI.of (by omega)
end
-- D2
noncomputable section
set_option maxRecDepth 100000

noncomputable def mapRes (f : Int → Int) : Res → Res
  | .at_ p => .at_ (f p)
  | .none => .none
  | .soon a b => .soon (f a) (f b)
  | .unbal a b => .unbal (f a) (f b)
section
variable {codes : List Int} {k : Nat} {a dd l g : Int} {i : Bool}
theorem mark_is : mark ⟨a + 1, dd, l, g + 1, i, false⟩ = ⟨a + 1, dd, l, (if dd = l then a else g) + 1, i, false⟩ := by
  unfold mark
  dsimp only
  by_cases h : dd = l
  · rw [if_pos h, if_pos h]
  · rw [if_neg h, if_neg h]
theorem R40 (h : a + 1 < 1 + (codes.length : Int)) (hc : cAt codes (a + 1) = 40) : runF codes (k + 1) ⟨a + 1, dd, l, g + 1, i, false⟩ = if dd + 1 = 0 then .at_ (a + 1 + 1) else runF codes k ⟨a + 1 + 1, dd + 1, l, (if dd = l then a else g) + 1, i, false⟩ := by
  have hn : ¬ Fails codes ⟨a + 1, dd, l, (if dd = l then a else g) + 1, i, false⟩ := fun q => by have := q.1; dsimp only at this; rw [hc] at this; cases this
  have hs : stepF codes ⟨a + 1, dd, l, (if dd = l then a else g) + 1, i, false⟩ = ⟨a + 1 + 1, dd + 1, l, (if dd = l then a else g) + 1, i, decide (dd + 1 = 0)⟩ := by
    unfold stepF took
    dsimp only
    rw [hc, if_neg (by decide), if_pos rfl]
  by_cases z : dd + 1 = 0
  · rw [if_pos z, run_at h mark_is hn (by rw [hs]; exact decide_eq_true z), hs]
  · rw [if_neg z, run_next h mark_is hn (by rw [hs]; exact decide_eq_false z), hs, decide_eq_false z]
theorem R41 (h : a + 1 < 1 + (codes.length : Int)) (hc : cAt codes (a + 1) = 41) : runF codes (k + 1) ⟨a + 1, dd, l, g + 1, i, false⟩ = if dd - 1 < l then .soon ((if dd = l then a else g) + 1) (a + 1 + 1) else if dd - 1 = 0 then .at_ (a + 1 + 1) else runF codes k ⟨a + 1 + 1, dd - 1, l, (if dd = l then a else g) + 1, i, false⟩ := by
  by_cases q : dd - 1 < l
  · rw [if_pos q, run_soon h mark_is ⟨hc, q⟩]
  have hn : ¬ Fails codes ⟨a + 1, dd, l, (if dd = l then a else g) + 1, i, false⟩ := fun z => q z.2
  have hs : stepF codes ⟨a + 1, dd, l, (if dd = l then a else g) + 1, i, false⟩ = ⟨a + 1 + 1, dd - 1, l, (if dd = l then a else g) + 1, i, decide (dd - 1 = 0)⟩ := by
    unfold stepF took
    dsimp only
    rw [hc, if_neg (by decide), if_neg (by decide), if_pos rfl]
  rw [if_neg q]
  by_cases z : dd - 1 = 0
  · rw [if_pos z, run_at h mark_is hn (by rw [hs]; exact decide_eq_true z), hs]
  · rw [if_neg z, run_next h mark_is hn (by rw [hs]; exact decide_eq_false z), hs, decide_eq_false z]
theorem R97 (h : a + 1 < 1 + (codes.length : Int)) (hc : cAt codes (a + 1) = 97) : runF codes (k + 1) ⟨a + 1, dd, l, g + 1, i, false⟩ = if i = true ∧ dd = 0 then .at_ (wend codes (a + 1)) else runF codes k ⟨a + 1 + 1, dd, l, (if dd = l then a else g) + 1, i, false⟩ := by
  have hn : ¬ Fails codes ⟨a + 1, dd, l, (if dd = l then a else g) + 1, i, false⟩ := fun q => by have := q.1; dsimp only at this; rw [hc] at this; cases this
  by_cases z : i = true ∧ dd = 0
  · have hs : stepF codes ⟨a + 1, dd, l, (if dd = l then a else g) + 1, i, false⟩ = ⟨wend codes (a + 1), dd, l, (if dd = l then a else g) + 1, i, true⟩ := by
      unfold stepF
      dsimp only
      rw [if_pos hc, if_pos (by rw [z.1, decide_eq_true z.2]; rfl)]
    rw [if_pos z, run_at h mark_is hn (by rw [hs]), hs]
  · have hs : stepF codes ⟨a + 1, dd, l, (if dd = l then a else g) + 1, i, false⟩ = ⟨a + 1 + 1, dd, l, (if dd = l then a else g) + 1, i, false⟩ := by
      unfold stepF
      dsimp only
      rw [if_pos hc, if_neg (fun q => z ((Bool.and_eq_true_iff.mp q).imp id of_decide_eq_true))]
    rw [if_neg z, run_next h mark_is hn (by rw [hs]), hs]
theorem R32 (h : a + 1 < 1 + (codes.length : Int)) (hc : cAt codes (a + 1) = 32) : runF codes (k + 1) ⟨a + 1, dd, l, g + 1, i, false⟩ = runF codes k ⟨a + 1 + 1, dd, l, (if dd = l then a else g) + 1, i, false⟩ := by
  have hn : ¬ Fails codes ⟨a + 1, dd, l, (if dd = l then a else g) + 1, i, false⟩ := fun q => by have := q.1; dsimp only at this; rw [hc] at this; cases this
  have hs : stepF codes ⟨a + 1, dd, l, (if dd = l then a else g) + 1, i, false⟩ = ⟨a + 1 + 1, dd, l, (if dd = l then a else g) + 1, i, false⟩ := by
    unfold stepF took
    dsimp only
    rw [hc, if_neg (by decide), if_neg (by decide), if_neg (by decide)]
  rw [run_next h mark_is hn (by rw [hs]), hs]
end
theorem toldAt {p q : Int} {t u : Tok} (h : p = q) : ToldIs (.at_ p) [.str (Str.ofString "at") t, .int q u] := by subst h; exact ⟨_, _, rfl⟩
theorem toldNone {t : Tok} : ToldIs .none [.str (Str.ofString "none") t] := ⟨_, rfl⟩
theorem toldSoon {p q p' q' : Int} {t u v : Tok} (h : p = p') (h' : q = q') : ToldIs (.soon p q) [.str (Str.ofString "Containing expression ends prematurely") t, .int p' u, .int q' v] := by subst h h'; exact ⟨_, _, _, rfl⟩
theorem toldUnbal {p q p' q' : Int} {t u v : Tok} (h : p = p') (h' : q = q') : ToldIs (.unbal p q) [.str (Str.ofString "Unbalanced parentheses") t, .int p' u, .int q' v] := by subst h h'; exact ⟨_, _, _, rfl⟩
theorem least0_le (d : Int) : least0 d ≤ 0 := by unfold least0; split <;> omega
noncomputable def LedIs (res : Res) (r : Value) (nx : Led) : Prop := ∃ tp items n, r = .ref tp ∧ nx = [(tp, { cls := .type "tuple", data := .seq items n })] ∧ ToldIs res items.toList
set_option maxHeartbeats 16000000 in
theorem law_one_does (w : World) (row : Str) (at_ d : Int) (tr ta td : Tok) (i : Bool) (hl : row.length ≤ 90) (hc : Codes (codesOf row)) (hp : 0 ≤ at_ ∧ at_ ≤ row.length) :
    Does w 2 16 Any 674 [.str row tr, .int at_ ta, .int d td, .bool i] [] (fun r nx => LedIs (mapRes (· - 1) (fwd (codesOf row) (at_ + 1) d i)) r nx) := by
  unfold Does
  intro mean mg mb dp un gd cn cs a ccd cl outer A₀ base h₀ L m s g₀ Q E B F X N T hk hP st dj hd hu hret
  refine wpAny_call ?_
  k_dflt (refine' enter (binds := [(Str.ofString "row", .str row tr), (Str.ofString "at", .int at_ ta), (Str.ofString "depth", .int d td), (Str.ofString "is_expression", .bool i)]) ?k1 ?k2 ?k3 ?k4 ?k5 ?kA ?kF ?kK ?k6 ?k7 ?k8 ?k9 ?kB ?_ ?c2 ?c3 ?c4 ?c5; (case kA => exact rfl); (case kF => exact rfl); (case kK => assumption); (case k1 => k_asm); (case k2 => k_asm); (case k3 => k_asm); (case k4 => k_asm); (case k5 => k_asm); (case k6 => k_is); (case k7 => k_is); (case k8 => ktr_room); (case k9 => first | exact BindsTo.of_eq rfl | exact binds_K (by k_in) rfl (by k_is) rfl rfl rfl); (case c5 => decide); (case kB => exact locs rfl); (case c2 => exact rfl); (case c3 => exact rfl); (case c4 => exact rfl); k_whole; intro g' L' h' tk0 FG' F' N' B' X' T' hg'; (try dsimp only); (try k_fold); (try (refine letA ?_; intro Ak)))
  clear hP st dj
  (repeat' (first | (k_unfold; (try dsimp only)) | (k_end; kc_close) | ((with_reducible show wpAny _ _ (execs (_ :: _) _) _ _ _); (with_reducible refine wpAny_execs_cons ?_); first | k_fold | (try dsimp only)) | (k_closed; first | ((with_reducible refine ite_pos ?_ ?_); (focus (k_dflt decide))) | ((with_reducible refine ite_neg ?_ ?_); (focus (k_dflt decide)))) | ((with_reducible show wpAny _ _ (call (.ref _) _) _ _ _); first | ((with_reducible show wpAny _ _ (call (.ref 667) _) _ _ _); (k_dflt (refine' Does.pureI (law_word_end_does _ _ _ _ _ ?hl ?hp) ?uB ?uF ?uX ?uN ?uT ?uk ?uP ?ust ?ud ?uu ?_; walk_at "mine:p"; (case hl => assumption); (case hp => omega); k_whole; intro tZ hZ tkZ FZ NZ; (try k_sweep); (try dsimp only))))) | ((with_reducible show wpAny _ _ (exec (.If (.Compare (.Name (Str.ofString "depth") _) [.Eq] [.Name (Str.ofString "least") _] _) _ _ _) _) _ _ _); (refine halt ?_)) | ((with_reducible show wpAny _ _ (call (.builtin "len") _) _ _ _); (k_here; (with_reducible show wpAny _ _ (call (Value.builtin "len") [Value.str _ _]) _ _ _); k_dflt (refine' len_row ?qf ?_; (case qf => assumption); k_whole))) | ((with_reducible show wpAny _ _ (exec (.While _ _ _ _) _) _ _ _); refine halt ?_) | ((with_reducible show wpAny _ _ (exec (.For _ _ _ _ _) _) _ _ _); refine halt ?_) | ((with_reducible show wpAny _ _ (eval (.Name _ _) _) _ _ _); k_here; k_dflt (refine' ld ?k1 ?k2 ?_; (case k1 => k_asm); (case k2 => first | with_reducible assumption | exact rfl | assumption); k_whole)) | walk1 | (dsimp only; with_reducible show wpAny _ _ (call (.ref _) _) _ _ _) | (dsimp only; walk1) | (leave1; (try dsimp only))))
  refine unhalt ?_
  refine' While_start (fun n m₁ news₁ => news₁ = [] ∧ m₁ (Str.ofString "row") = some (.str row tr) ∧ m₁ (Str.ofString "is_expression") = some (.bool i) ∧ (∃ tl, m₁ (Str.ofString "least") = some (.int (least0 d) tl)) ∧
      ∃ (a dd g : Int) (t1 t2 t3 : Tok), m₁ (Str.ofString "at") = some (.int a t1) ∧ m₁ (Str.ofString "depth") = some (.int dd t2) ∧ m₁ (Str.ofString "good") = some (.int g t3) ∧ 0 ≤ a ∧ a ≤ row.length ∧ runF (codesOf row) n ⟨a + 1, dd, least0 d, g + 1, i, false⟩ = fwd (codesOf row) (at_ + 1) d i ∧ (row.length : Int) - a < n) (n₀ := 200) ?iF ?iS ?_
  case iF => assumption
  case iS => exact ⟨[], News.nil, rfl, by rfl, by rfl, ⟨_, by rfl⟩, at_, d, at_, _, _, _, by rfl, by rfl, by rfl, hp.1, hp.2, rfl, by omega⟩
  intro n m₁ news₁ h₁ tk₁ F₁ N₁ hI9
  (try k_fold)
  (refine cps ?_; intro G9 out9)
  obtain ⟨rfl, a1, a2, ⟨tl, a3⟩, a, dd, g, t1, t2, t3, a4, a5, a6, b1, b2, b3, b4⟩ := hI9
  (refine out9 ?_; clear out9 G9)
  obtain ⟨k, rfl⟩ : ∃ k, n = k + 1 := ⟨n - 1, by omega⟩
  have hl0 := least0_le d
  by_cases hin : a < row.length
  · have hlt : a + 1 < 1 + ((codesOf row).length : Int) := by rw [codes_len]; omega
    have h4 : Four (cAt (codesOf row) (a + 1)) := four_at hc ⟨by omega, hlt⟩
    have hce := chN_eq b1 hin
    (repeat' (first | (k_unfold; (try dsimp only)) | (k_end; kc_close) | ((with_reducible show wpAny _ _ (execs (_ :: _) _) _ _ _); (with_reducible refine wpAny_execs_cons ?_); first | k_fold | (try dsimp only)) | (k_closed; first | ((with_reducible refine ite_pos ?_ ?_); (focus (k_dflt decide))) | ((with_reducible refine ite_neg ?_ ?_); (focus (k_dflt decide)))) | ((with_reducible show wpAny _ _ (call (.ref _) _) _ _ _); first | ((with_reducible show wpAny _ _ (call (.ref 667) _) _ _ _); (k_dflt (refine' Does.pureI (law_word_end_does _ _ _ _ _ ?hl ?hp) ?uB ?uF ?uX ?uN ?uT ?uk ?uP ?ust ?ud ?uu ?_; walk_at "mine:p"; (case hl => assumption); (case hp => omega); k_whole; intro tZ hZ tkZ FZ NZ; (try k_sweep); (try dsimp only))))) | ((with_reducible show wpAny _ _ (exec (.If (.Compare (.Name (Str.ofString "depth") _) [.Eq] [.Name (Str.ofString "least") _] _) _ _ _) _) _ _ _); (refine halt ?_)) | ((with_reducible show wpAny _ _ (call (.builtin "len") _) _ _ _); (k_here; (with_reducible show wpAny _ _ (call (Value.builtin "len") [Value.str _ _]) _ _ _); k_dflt (refine' len_row ?qf ?_; (case qf => assumption); k_whole))) | ((with_reducible show wpAny _ _ (exec (.While _ _ _ _) _) _ _ _); refine halt ?_) | ((with_reducible show wpAny _ _ (exec (.For _ _ _ _ _) _) _ _ _); refine halt ?_) | ((with_reducible show wpAny _ _ (eval (.Name _ _) _) _ _ _); k_here; k_dflt (refine' ld ?k1 ?k2 ?_; (case k1 => k_asm); (case k2 => first | with_reducible assumption | exact rfl | assumption); k_whole)) | walk1 | (dsimp only; with_reducible show wpAny _ _ (call (.ref _) _) _ _ _) | (dsimp only; walk1) | (leave1; (try dsimp only))))
    refine unhalt ?_
    have hj : ∀ (m₂ : Str → Option Value) (h₂ : Heap) (tk₂ : Nat) (g₂ : Int) (t₅ : Tok), m₂ (Str.ofString "row") = some (.str row tr) → m₂ (Str.ofString "is_expression") = some (.bool i) → m₂ (Str.ofString "least") = some (.int (least0 d) tl) → m₂ (Str.ofString "at") = some (.int a t1) → m₂ (Str.ofString "depth") = some (.int dd t2) → m₂ (Str.ofString "good") = some (.int g₂ t₅) → (if dd = least0 d then a else g) = g₂ → Fr g' L' h₂ m₂ → News g' L' h₂ [] → qk .next { s with heap := h₂, toks := tk₂ } := by
      clear a1 a2 a3 a4 a5 a6 F₁ N₁
      intro m₂ h₂ tk₂ g₂ t₅ a1 a2 a3 a4 a5 a6 hg2 F₁ N₁
      rcases h4 with h | h | h | h
      · have hit : Txt.item row a = S "(" := by rw [item_eq b1 hin, S_o, show chN row a = 40 by omega]
        have f1 : (Txt.item row a == Str.ofString "a") = false := by rw [hit]; decide +kernel
        have f2 : (Txt.item row a == Str.ofString "(") = true := by rw [hit]; decide +kernel
        have f3 : (Txt.item row a == Str.ofString ")") = false := by rw [hit]; decide +kernel
        have f4 : (Builtin.Str.occurrences (Str.ofString "()") (Txt.item row a) 0 (Str.ofString "()").length 1).isEmpty = false := by rw [hit]; decide +kernel
        rw [R40 hlt h, hg2] at b3
        (repeat' (first | (k_unfold; (try dsimp only)) | (k_end; kc_close) | ((with_reducible show wpAny _ _ (execs (_ :: _) _) _ _ _); (with_reducible refine wpAny_execs_cons ?_); first | k_fold | (try dsimp only)) | (k_closed; first | ((with_reducible refine ite_pos ?_ ?_); (focus (k_dflt decide))) | ((with_reducible refine ite_neg ?_ ?_); (focus (k_dflt decide)))) | ((with_reducible show wpAny _ _ (call (.ref _) _) _ _ _); first | ((with_reducible show wpAny _ _ (call (.ref 667) _) _ _ _); (k_dflt (refine' Does.pureI (law_word_end_does _ _ _ _ _ ?hl ?hp) ?uB ?uF ?uX ?uN ?uT ?uk ?uP ?ust ?ud ?uu ?_; walk_at "mine:p"; (case hl => assumption); (case hp => omega); k_whole; intro tZ hZ tkZ FZ NZ; (try k_sweep); (try dsimp only))))) | ((with_reducible show wpAny _ _ (exec (.If (.Compare (.Name (Str.ofString "depth") _) [.Eq] [.Name (Str.ofString "least") _] _) _ _ _) _) _ _ _); (refine halt ?_)) | ((with_reducible show wpAny _ _ (call (.builtin "len") _) _ _ _); (k_here; (with_reducible show wpAny _ _ (call (Value.builtin "len") [Value.str _ _]) _ _ _); k_dflt (refine' len_row ?qf ?_; (case qf => assumption); k_whole))) | ((with_reducible show wpAny _ _ (exec (.While _ _ _ _) _) _ _ _); refine halt ?_) | ((with_reducible show wpAny _ _ (exec (.For _ _ _ _ _) _) _ _ _); refine halt ?_) | ((with_reducible show wpAny _ _ (eval (.Name _ _) _) _ _ _); k_here; k_dflt (refine' ld ?k1 ?k2 ?_; (case k1 => k_asm); (case k2 => first | with_reducible assumption | exact rfl | assumption); k_whole)) | walk1 | (dsimp only; with_reducible show wpAny _ _ (call (.ref _) _) _ _ _) | (dsimp only; walk1) | (leave1; (try dsimp only))))
        all_goals first
          | (rw [if_pos (by assumption : dd + 1 = 0)] at b3; (refine hret _ _ _ _ (by assumption) (by assumption) (Kept.of_frame hg' (by assumption)) ⟨_, _, _, rfl, rfl, ?_⟩; rw [← b3]; exact toldAt (by show (_ : Int) - 1 = _; omega)))
          | (rw [if_neg (by assumption : ¬ dd + 1 = 0)] at b3; ((dsimp only [WhileStep2]; refine' ⟨_, _, _, _, k, rfl, ?wF, ?wN, ?wlt, ?_⟩; (case wF => assumption); (case wN => assumption); (case wlt => omega)); exact ⟨rfl, a1, a2, ⟨tl, a3⟩, a + 1, _, _, _, _, _, by rfl, by first | exact a5 | rfl, by first | exact a6 | rfl, by omega, by omega, b3, by omega⟩))
      · have hit : Txt.item row a = S ")" := by rw [item_eq b1 hin, S_c, show chN row a = 41 by omega]
        have f1 : (Txt.item row a == Str.ofString "a") = false := by rw [hit]; decide +kernel
        have f2 : (Txt.item row a == Str.ofString "(") = false := by rw [hit]; decide +kernel
        have f3 : (Txt.item row a == Str.ofString ")") = true := by rw [hit]; decide +kernel
        have f4 : (Builtin.Str.occurrences (Str.ofString "()") (Txt.item row a) 0 (Str.ofString "()").length 1).isEmpty = false := by rw [hit]; decide +kernel
        rw [R41 hlt h, hg2] at b3
        (repeat' (first | (k_unfold; (try dsimp only)) | (k_end; kc_close) | ((with_reducible show wpAny _ _ (execs (_ :: _) _) _ _ _); (with_reducible refine wpAny_execs_cons ?_); first | k_fold | (try dsimp only)) | (k_closed; first | ((with_reducible refine ite_pos ?_ ?_); (focus (k_dflt decide))) | ((with_reducible refine ite_neg ?_ ?_); (focus (k_dflt decide)))) | ((with_reducible show wpAny _ _ (call (.ref _) _) _ _ _); first | ((with_reducible show wpAny _ _ (call (.ref 667) _) _ _ _); (k_dflt (refine' Does.pureI (law_word_end_does _ _ _ _ _ ?hl ?hp) ?uB ?uF ?uX ?uN ?uT ?uk ?uP ?ust ?ud ?uu ?_; walk_at "mine:p"; (case hl => assumption); (case hp => omega); k_whole; intro tZ hZ tkZ FZ NZ; (try k_sweep); (try dsimp only))))) | ((with_reducible show wpAny _ _ (exec (.If (.Compare (.Name (Str.ofString "depth") _) [.Eq] [.Name (Str.ofString "least") _] _) _ _ _) _) _ _ _); (refine halt ?_)) | ((with_reducible show wpAny _ _ (call (.builtin "len") _) _ _ _); (k_here; (with_reducible show wpAny _ _ (call (Value.builtin "len") [Value.str _ _]) _ _ _); k_dflt (refine' len_row ?qf ?_; (case qf => assumption); k_whole))) | ((with_reducible show wpAny _ _ (exec (.While _ _ _ _) _) _ _ _); refine halt ?_) | ((with_reducible show wpAny _ _ (exec (.For _ _ _ _ _) _) _ _ _); refine halt ?_) | ((with_reducible show wpAny _ _ (eval (.Name _ _) _) _ _ _); k_here; k_dflt (refine' ld ?k1 ?k2 ?_; (case k1 => k_asm); (case k2 => first | with_reducible assumption | exact rfl | assumption); k_whole)) | walk1 | (dsimp only; with_reducible show wpAny _ _ (call (.ref _) _) _ _ _) | (dsimp only; walk1) | (leave1; (try dsimp only))))
        all_goals first
          | (exfalso; omega)
          | (rw [if_neg (by omega), if_pos (by omega)] at b3; (refine hret _ _ _ _ (by assumption) (by assumption) (Kept.of_frame hg' (by assumption)) ⟨_, _, _, rfl, rfl, ?_⟩; rw [← b3]; exact toldAt (by show (_ : Int) - 1 = _; omega)))
          | (rw [if_pos (by omega)] at b3; (refine hret _ _ _ _ (by assumption) (by assumption) (Kept.of_frame hg' (by assumption)) ⟨_, _, _, rfl, rfl, ?_⟩; rw [← b3]; exact toldSoon (by show (_ : Int) - 1 = _; omega) (by show (_ : Int) - 1 = _; omega)))
          | (rw [if_neg (by omega), if_neg (by omega)] at b3; ((dsimp only [WhileStep2]; refine' ⟨_, _, _, _, k, rfl, ?wF, ?wN, ?wlt, ?_⟩; (case wF => assumption); (case wN => assumption); (case wlt => omega)); exact ⟨rfl, a1, a2, ⟨tl, a3⟩, a + 1, _, _, _, _, _, by rfl, by first | exact a5 | rfl, by first | exact a6 | rfl, by omega, by omega, b3, by omega⟩))
      · have hit : Txt.item row a = S "a" := by rw [item_eq b1 hin, S_a, show chN row a = 97 by omega]
        have f1 : (Txt.item row a == Str.ofString "a") = true := by rw [hit]; decide +kernel
        have f4 : (Builtin.Str.occurrences (Str.ofString "()") (Txt.item row a) 0 (Str.ofString "()").length 1).isEmpty = true := by rw [hit]; decide +kernel
        rw [R97 hlt h, hg2] at b3
        (repeat' (first | (k_unfold; (try dsimp only)) | (k_end; kc_close) | ((with_reducible show wpAny _ _ (execs (_ :: _) _) _ _ _); (with_reducible refine wpAny_execs_cons ?_); first | k_fold | (try dsimp only)) | (k_closed; first | ((with_reducible refine ite_pos ?_ ?_); (focus (k_dflt decide))) | ((with_reducible refine ite_neg ?_ ?_); (focus (k_dflt decide)))) | ((with_reducible show wpAny _ _ (call (.ref _) _) _ _ _); first | ((with_reducible show wpAny _ _ (call (.ref 667) _) _ _ _); (k_dflt (refine' Does.pureI (law_word_end_does _ _ _ _ _ ?hl ?hp) ?uB ?uF ?uX ?uN ?uT ?uk ?uP ?ust ?ud ?uu ?_; walk_at "mine:p"; (case hl => assumption); (case hp => omega); k_whole; intro tZ hZ tkZ FZ NZ; (try k_sweep); (try dsimp only))))) | ((with_reducible show wpAny _ _ (exec (.If (.Compare (.Name (Str.ofString "depth") _) [.Eq] [.Name (Str.ofString "least") _] _) _ _ _) _) _ _ _); (refine halt ?_)) | ((with_reducible show wpAny _ _ (call (.builtin "len") _) _ _ _); (k_here; (with_reducible show wpAny _ _ (call (Value.builtin "len") [Value.str _ _]) _ _ _); k_dflt (refine' len_row ?qf ?_; (case qf => assumption); k_whole))) | ((with_reducible show wpAny _ _ (exec (.While _ _ _ _) _) _ _ _); refine halt ?_) | ((with_reducible show wpAny _ _ (exec (.For _ _ _ _ _) _) _ _ _); refine halt ?_) | ((with_reducible show wpAny _ _ (eval (.Name _ _) _) _ _ _); k_here; k_dflt (refine' ld ?k1 ?k2 ?_; (case k1 => k_asm); (case k2 => first | with_reducible assumption | exact rfl | assumption); k_whole)) | walk1 | (dsimp only; with_reducible show wpAny _ _ (call (.ref _) _) _ _ _) | (dsimp only; walk1) | (leave1; (try dsimp only))))
        all_goals first
          | (rw [if_pos ⟨by assumption, by assumption⟩] at b3; (refine hret _ _ _ _ (by assumption) (by assumption) (Kept.of_frame hg' (by assumption)) ⟨_, _, _, rfl, rfl, ?_⟩; rw [← b3]; exact toldAt (by show (_ : Int) - 1 = _; omega)))
          | (rw [if_neg (fun q => (by assumption : ¬ dd = 0) q.2)] at b3; ((dsimp only [WhileStep2]; refine' ⟨_, _, _, _, k, rfl, ?wF, ?wN, ?wlt, ?_⟩; (case wF => assumption); (case wN => assumption); (case wlt => omega)); exact ⟨rfl, a1, a2, ⟨tl, a3⟩, a + 1, _, _, _, _, _, by rfl, by first | exact a5 | rfl, by first | exact a6 | rfl, by omega, by omega, b3, by omega⟩))
          | (rw [if_neg (fun q => by have := q.1; rw [(by assumption : i = false)] at this; cases this)] at b3; ((dsimp only [WhileStep2]; refine' ⟨_, _, _, _, k, rfl, ?wF, ?wN, ?wlt, ?_⟩; (case wF => assumption); (case wN => assumption); (case wlt => omega)); exact ⟨rfl, a1, a2, ⟨tl, a3⟩, a + 1, _, _, _, _, _, by rfl, by first | exact a5 | rfl, by first | exact a6 | rfl, by omega, by omega, b3, by omega⟩))
      · have hit : Txt.item row a = ⟨#[32]⟩ := by rw [item_eq b1 hin, show chN row a = 32 by omega]
        have f1 : (Txt.item row a == Str.ofString "a") = false := by rw [hit]; decide +kernel
        have f4 : (Builtin.Str.occurrences (Str.ofString "()") (Txt.item row a) 0 (Str.ofString "()").length 1).isEmpty = true := by rw [hit]; decide +kernel
        rw [R32 hlt h, hg2] at b3
        (repeat' (first | (k_unfold; (try dsimp only)) | (k_end; kc_close) | ((with_reducible show wpAny _ _ (execs (_ :: _) _) _ _ _); (with_reducible refine wpAny_execs_cons ?_); first | k_fold | (try dsimp only)) | (k_closed; first | ((with_reducible refine ite_pos ?_ ?_); (focus (k_dflt decide))) | ((with_reducible refine ite_neg ?_ ?_); (focus (k_dflt decide)))) | ((with_reducible show wpAny _ _ (call (.ref _) _) _ _ _); first | ((with_reducible show wpAny _ _ (call (.ref 667) _) _ _ _); (k_dflt (refine' Does.pureI (law_word_end_does _ _ _ _ _ ?hl ?hp) ?uB ?uF ?uX ?uN ?uT ?uk ?uP ?ust ?ud ?uu ?_; walk_at "mine:p"; (case hl => assumption); (case hp => omega); k_whole; intro tZ hZ tkZ FZ NZ; (try k_sweep); (try dsimp only))))) | ((with_reducible show wpAny _ _ (exec (.If (.Compare (.Name (Str.ofString "depth") _) [.Eq] [.Name (Str.ofString "least") _] _) _ _ _) _) _ _ _); (refine halt ?_)) | ((with_reducible show wpAny _ _ (call (.builtin "len") _) _ _ _); (k_here; (with_reducible show wpAny _ _ (call (Value.builtin "len") [Value.str _ _]) _ _ _); k_dflt (refine' len_row ?qf ?_; (case qf => assumption); k_whole))) | ((with_reducible show wpAny _ _ (exec (.While _ _ _ _) _) _ _ _); refine halt ?_) | ((with_reducible show wpAny _ _ (exec (.For _ _ _ _ _) _) _ _ _); refine halt ?_) | ((with_reducible show wpAny _ _ (eval (.Name _ _) _) _ _ _); k_here; k_dflt (refine' ld ?k1 ?k2 ?_; (case k1 => k_asm); (case k2 => first | with_reducible assumption | exact rfl | assumption); k_whole)) | walk1 | (dsimp only; with_reducible show wpAny _ _ (call (.ref _) _) _ _ _) | (dsimp only; walk1) | (leave1; (try dsimp only))))
        all_goals ((dsimp only [WhileStep2]; refine' ⟨_, _, _, _, k, rfl, ?wF, ?wN, ?wlt, ?_⟩; (case wF => assumption); (case wN => assumption); (case wlt => omega)); exact ⟨rfl, a1, a2, ⟨tl, a3⟩, a + 1, _, _, _, _, _, by rfl, by first | exact a5 | rfl, by first | exact a6 | rfl, by omega, by omega, b3, by omega⟩)
    clear_value qk
    refine wpAny_If ?_
    (repeat' (first | (k_unfold; (try dsimp only)) | (k_end; kc_close) | ((with_reducible show wpAny _ _ (execs (_ :: _) _) _ _ _); (with_reducible refine wpAny_execs_cons ?_); first | k_fold | (try dsimp only)) | (k_closed; first | ((with_reducible refine ite_pos ?_ ?_); (focus (k_dflt decide))) | ((with_reducible refine ite_neg ?_ ?_); (focus (k_dflt decide)))) | ((with_reducible show wpAny _ _ (call (.ref _) _) _ _ _); first | ((with_reducible show wpAny _ _ (call (.ref 667) _) _ _ _); (k_dflt (refine' Does.pureI (law_word_end_does _ _ _ _ _ ?hl ?hp) ?uB ?uF ?uX ?uN ?uT ?uk ?uP ?ust ?ud ?uu ?_; walk_at "mine:p"; (case hl => assumption); (case hp => omega); k_whole; intro tZ hZ tkZ FZ NZ; (try k_sweep); (try dsimp only))))) | ((with_reducible show wpAny _ _ (exec (.If (.Compare (.Name (Str.ofString "depth") _) [.Eq] [.Name (Str.ofString "least") _] _) _ _ _) _) _ _ _); (refine halt ?_)) | ((with_reducible show wpAny _ _ (call (.builtin "len") _) _ _ _); (k_here; (with_reducible show wpAny _ _ (call (Value.builtin "len") [Value.str _ _]) _ _ _); k_dflt (refine' len_row ?qf ?_; (case qf => assumption); k_whole))) | ((with_reducible show wpAny _ _ (exec (.While _ _ _ _) _) _ _ _); refine halt ?_) | ((with_reducible show wpAny _ _ (exec (.For _ _ _ _ _) _) _ _ _); refine halt ?_) | ((with_reducible show wpAny _ _ (eval (.Name _ _) _) _ _ _); k_here; k_dflt (refine' ld ?k1 ?k2 ?_; (case k1 => k_asm); (case k2 => first | with_reducible assumption | exact rfl | assumption); k_whole)) | walk1 | (dsimp only; with_reducible show wpAny _ _ (call (.ref _) _) _ _ _) | (dsimp only; walk1) | (leave1; (try dsimp only))))
    · refine' hj _ _ _ _ _ ?c1 ?c2 ?c3 ?c4 ?c5 ?c6 (if_pos (by assumption)) ?cF ?cN
      case cF => assumption
      case cN => assumption
      case c6 => first | rfl | assumption
      case c1 => first | rfl | assumption
      case c2 => first | rfl | assumption
      case c3 => first | rfl | assumption
      case c4 => first | rfl | assumption
      case c5 => first | rfl | assumption
    · refine hj _ _ _ _ _ a1 a2 a3 a4 a5 a6 (if_neg (by assumption)) (by assumption) (by assumption)
  · (repeat' (first | (k_unfold; (try dsimp only)) | (k_end; kc_close) | ((with_reducible show wpAny _ _ (execs (_ :: _) _) _ _ _); (with_reducible refine wpAny_execs_cons ?_); first | k_fold | (try dsimp only)) | (k_closed; first | ((with_reducible refine ite_pos ?_ ?_); (focus (k_dflt decide))) | ((with_reducible refine ite_neg ?_ ?_); (focus (k_dflt decide)))) | ((with_reducible show wpAny _ _ (call (.ref _) _) _ _ _); first | ((with_reducible show wpAny _ _ (call (.ref 667) _) _ _ _); (k_dflt (refine' Does.pureI (law_word_end_does _ _ _ _ _ ?hl ?hp) ?uB ?uF ?uX ?uN ?uT ?uk ?uP ?ust ?ud ?uu ?_; walk_at "mine:p"; (case hl => assumption); (case hp => omega); k_whole; intro tZ hZ tkZ FZ NZ; (try k_sweep); (try dsimp only))))) | ((with_reducible show wpAny _ _ (exec (.If (.Compare (.Name (Str.ofString "depth") _) [.Eq] [.Name (Str.ofString "least") _] _) _ _ _) _) _ _ _); (refine halt ?_)) | ((with_reducible show wpAny _ _ (call (.builtin "len") _) _ _ _); (k_here; (with_reducible show wpAny _ _ (call (Value.builtin "len") [Value.str _ _]) _ _ _); k_dflt (refine' len_row ?qf ?_; (case qf => assumption); k_whole))) | ((with_reducible show wpAny _ _ (exec (.While _ _ _ _) _) _ _ _); refine halt ?_) | ((with_reducible show wpAny _ _ (exec (.For _ _ _ _ _) _) _ _ _); refine halt ?_) | ((with_reducible show wpAny _ _ (eval (.Name _ _) _) _ _ _); k_here; k_dflt (refine' ld ?k1 ?k2 ?_; (case k1 => k_asm); (case k2 => first | with_reducible assumption | exact rfl | assumption); k_whole)) | walk1 | (dsimp only; with_reducible show wpAny _ _ (call (.ref _) _) _ _ _) | (dsimp only; walk1) | (leave1; (try dsimp only))))
    · rw [run_none (by dsimp only; rw [codes_len]; omega) (by assumption)] at b3
      (refine hret _ _ _ _ (by assumption) (by assumption) (Kept.of_frame hg' (by assumption)) ⟨_, _, _, rfl, rfl, ?_⟩; rw [← b3]; exact toldNone)
    · rw [run_unbal (by dsimp only; rw [codes_len]; omega) (by assumption)] at b3
      (refine hret _ _ _ _ (by assumption) (by assumption) (Kept.of_frame hg' (by assumption)) ⟨_, _, _, rfl, rfl, ?_⟩; rw [← b3]; exact toldUnbal (by show (g + 1 : Int) - 1 = g; omega) (by show (a + 1 : Int) - 1 = a; omega))
end
-- X6
noncomputable section
set_option maxRecDepth 100000

/-- entering a def with cells: what stands behind the call and is not named on the ledger stays as it is -/
theorem enterX {w : World} {A A₀ : Around} {s : Shared} {L : Addr} {h₀ base : Heap} {m mg mb : Str → Option Value} {news : Led} {mean : ExcName → Option Value} {env : Env} {outer : List Env} {R : Result → Shared → Prop} {name qual : Str} {params : Arguments} {body : List Stmt} {scope : Scope} {dV kV doc pm cdv ct oc : Value} {an od : Option Addr} {osl : Array (Option Value)} {f : Addr} {args : Args} {binds : List (Str × Value)}
    (B : Below A₀ base outer h₀) (F : Fr h₀ L s.heap m) (X₀ : (K w.params).In h₀) (N : News h₀ L s.heap news) (T : Tp mean mg mb h₀) (hA : A.frames = some (env :: outer)) (hf : env.frame = some L) (hke : env.scope.kind = .function)
    (ho : (K w.params).lookup f = some ⟨oc, od, .func (fnOf name qual params body scope dV kV doc pm an cdv ct), osl⟩) (hcd : codeIn (K w.params) cdv qual = true) (hroom : A.depth < recursionLimit)
    (hbind : BindsTo s (fnOf name qual params body scope dV kV doc pm an cdv ct) args binds) (hkind : (binds.all fun y => scope.names.lookup y.1 == some .local || scope.names.lookup y.1 == some .cell) = true)
    (hnd : ((cellsFrom 0 scope.names []).map (·.1)).Nodup)
    (h : ∀ g L' h₁ tk cells, Fr h₀ L g m → Fr g L' h₁ (bindL (envOfC qual scope L' f cdv).kindOf binds fun _ => none) → News g L' h₁ (cells ++ news) →
      CellsAre (bindC (envOfC qual scope L' f cdv).kindOf binds fun _ => none) (cellsFrom (L' + 1) scope.names []) cells → Below A base (env :: outer) g → (K w.params).In g → Tp mean mg mb g →
      (∀ b o, s.heap.get? b = some o → (∀ p ∈ news, p.1 ≠ b) → g.get? b = some o) → (∀ p ∈ news, p.1 < L') →
      wpAny (model Pg w) (A.deeper (envOfC qual scope L' f cdv)) (execs body (envOfC qual scope L' f cdv))
        (fun fl s' => LeaveK h₀ L m g R (match fl with | .ret v => v | _ => .none) s')
        (fun e s' => wpAny (model Pg w) (A.deeper (envOfC qual scope L' f cdv)) (leaving (envOfC qual scope L' f cdv) e) (fun _ s'' => R (.error e) s'') (fun e' s'' => R (.error e') s'') s')
        { s with heap := h₁, toks := tk })
    (hco : scope.isCoroutine = false) (hgen : scope.isGenerator = false) (hk : scope.kind = .function) : codeAny (model Pg w) A (.call (.ref f) args) R s := by
  obtain ⟨FG, BG, st, lv⟩ := groundX (R := R) B F N hA hf hke
  have np : ∀ b, (∀ p ∈ news, p.1 ≠ b) → b ∉ news.map (·.1) := fun b n q => by
    obtain ⟨p, hp, e⟩ := List.mem_map.mp q
    exact n p hp e
  refine codeAny_call_function hroom ((X₀.keeps F.keep) _ _ ho) rfl hco hgen rfl (codeRec_of (X₀.keeps F.keep) hcd) (hbind _ _ _ _ (wpAny_newFunctionEnv_cells hk (kindsX hkind _) fun env' he s' x => ?_))
  subst he
  obtain ⟨h₁, tk, rfl, _⟩ := x.done
  have hk₁ := x.toInCall.keep
  obtain ⟨cells, NC, Y⟩ := Cl.news (h₀ := s.heap) (Nat.le_refl _) fun n c hm => ⟨x.cell n c (lookup_of_mem_nodup (cellsFrom_names scope.names 0 (s.heap.objs.size + 1) [] [] rfl ▸ hnd) hm), x.above n c hm⟩
  have NN : News (hideAll s.heap (news.map (·.1))) s.heap.objs.size h₁ (cells ++ news) := fun p hp => by
    rcases List.mem_append.mp hp with hp | hp
    · exact ⟨(NC p hp).1, (NC p hp).2.1, fresh_of_stays (fun b o e => of_hideAll _ e) (NC p hp).2.2⟩
    · exact ⟨hk₁ _ _ (N p hp).1, Nat.ne_of_lt (Heap.lt_size (N p hp).1), hideAll_none _ (List.mem_map_of_mem hp)⟩
  refine ⟨(T.nolimit.keeps F.keep).keeps hk₁, codeAny_func (wpAny_mono (h _ s.heap.objs.size h₁ tk cells FG ⟨x.toInCall.ns, fun b o e => hk₁ b o (of_hideAll _ e), Nat.le_of_eq (hideAll_size _ _)⟩ NN Y BG (X₀.keeps st) (T.keeps st)
    (fun b o e n => hideAll_get _ e (np b n)) (fun p hp => Heap.lt_size (N p hp).1)) (fun fl s' hl => lv _ _ hl) fun _ _ y => y)⟩
theorem small_tup {items : Array Value} (h : Nat.ble items.size 9 = true) : items.size ≤ sizeLine := by
  have : (9 : Nat) ≤ sizeLine := by decide
  exact Nat.le_trans (Nat.le_of_ble_eq_true h) this
end
-- E1
noncomputable section
set_option maxRecDepth 100000
open LCg
variable {prog : Program} {w : World} {A : Around} {E : Value → Shared → Prop} {s : Shared} {h₀ : Heap} {L : Addr} {m : Str → Option Value} {env : Env}
/-- a block's source: whatever can be walked -/
noncomputable def SrcG (prog : Program) (w : World) (A : Around) (h₀ : Heap) (L : Addr) (m : Str → Option Value) (E : Value → Shared → Prop) (Rest : Shared → (Led → Prop) → (Nat → Value → Prop) → Nat → Led → Prop) (xv : Value) (s₁ : Shared) : Prop :=
  wpAny (model prog w) A (pyIter xv) (fun it s₂ => ∃ (I : Addr) (fp : List Addr) (n : Nat) (P : Nat → Value → Prop) (St : Nat → Heap → Prop) (S : Led → Prop) (news : Led), it = .ref I ∧ Walks prog w A I fp [I] n P St ∧ n ≤ sizeLine ∧
    (∀ i h, St i h → ∃ o, h.get? I = some o) ∧ (∀ i h h' o nw, St i h → h.get? I = some o → h'.get? I = some o → (∀ b o, h₀.get? b = some o → h'.get? b = some o) → News h₀ L h' nw → S nw → St i h') ∧
    St 0 s₂.heap ∧ (∀ b ∈ fp, b < s₂.heap.objs.size) ∧ Fr h₀ L s₂.heap m ∧ News h₀ L s₂.heap news ∧ L ≠ I ∧ h₀.get? I = none ∧ (∀ p ∈ news, p.1 ≠ I) ∧ S news ∧
    Rest s₂ S P n news) E s₁
theorem ListComp_W {elt iter : PySem.Expr} {x : Str} {px : Pos} {scope : Scope} {cl : List (Str × Addr)} {pos : Pos} {Q : Value → Shared → Prop}
    (F₀ : Fr h₀ L s.heap m) (hclos : closureFor scope env = pure cl) (hcell : ∀ y ∈ scope.names, y.2 ≠ .cell) (hkind : scope.kind = .function)
    (hnames : ∀ y ∈ scope.names, y.2 = .local → scope.names.lookup y.1 = some .local) (hx : scope.names.lookup x = some .local)
    (h : wpAny (model prog w) A (eval iter env) (SrcG prog w A h₀ L m E (fun s₂ S P n news => CompRest prog w A h₀ L m env elt x scope cl s₂ S P (FinE h₀ L m s₂ Q) n 0 [] news)) E s)
    (hs : ∀ x, foldedSetIterable iter env x = pure x := by intro _; rfl) :
    wpAny (model prog w) A (eval (.ListComp elt [⟨.Name x px, iter, [], 0⟩] scope pos) env) Q E s := by
  rw [eval_ListComp]
  refine wpAny_comprehension_free (use := none) rfl hs hclos hkind hnames (wpAny_mono h (fun xv s₁ h₁ => ?_) fun _ _ e => e)
  refine wpAny_mono h₁ (fun it s₂ h₂ => ?_) fun _ _ e => e
  obtain ⟨I, fp, n, P, St, S, news, rfl, W, hsz, hIo, hSt, hst, hfp, F, N, hIL, hI₀, off, hS, R⟩ := h₂
  refine block_U W hsz hIo hSt hcell hkind hx hst hfp F N hIL hI₀ off hS R ?_
  intro D C h tk m' ys news' F' N' o1 hn hC₀ hD₀ hCL hDL hCD offC fin
  refine ⟨m', hn, fun h'' hs'' => fin D h'' tk (F'.change hs'' hCL hC₀) (fun p hp => ?_) o1⟩
  refine ⟨hs''.extBut _ _ ?_ (N' p hp).1, (N' p hp).2⟩
  rcases List.mem_cons.mp hp with rfl | hp
  · exact Ne.symm hCD
  · exact offC p hp
theorem Assign_ListComp_W {elt iter : PySem.Expr} {x y : Str} {px py : Pos} {scope : Scope} {cl : List (Str × Addr)} {pos spos : Pos} {Q : Flow → Shared → Prop} (F₀ : Fr h₀ L s.heap m) (hLe : env.locals = L)
    (hsw : swapsWith (.ListComp elt [⟨.Name x px, iter, [], 0⟩] scope pos) (some (.Name y py)) spos.line env = pure true)
    (hclos : closureFor scope env = pure cl) (hcell : ∀ z ∈ scope.names, z.2 ≠ .cell) (hkind : scope.kind = .function)
    (hnames : ∀ z ∈ scope.names, z.2 = .local → scope.names.lookup z.1 = some .local) (hx : scope.names.lookup x = some .local)
    (hy : env.kindOf y = some .local) (hp : (env.scope.kind == .class || (env.scope.kind == .module && env.locals != env.globals)) = false)
    (h : wpAny (model prog w) A (eval iter env) (SrcG prog w A h₀ L m E (fun s₂ S P n news => CompRest prog w A h₀ L m env elt x scope cl s₂ S P (FinA h₀ L m s₂ y Q) n 0 [] news)) E s)
    (hs : ∀ x, foldedSetIterable iter env x = pure x := by intro _; rfl) :
    wpAny (model prog w) A (exec (.Assign [.Name y py] (.ListComp elt [⟨.Name x px, iter, [], 0⟩] scope pos) spos) env) Q E s := by
  subst hLe
  rw [exec_Assign_Name_used _ _ _ _ hsw]
  refine wpAny_bind (wpAny_standAt (wpAny_bind ?_))
  show wpAny _ A (do let _ ← comprehension (.ListComp elt [⟨.Name x px, iter, [], 0⟩] scope pos) scope env _ (newList []) false (eval iter env) (some (assign (.Name y py) env))) _ _ s
  refine wpAny_bind (wpAny_mono (wpAny_comprehension_free (use := some (assign (.Name y py) env)) (Q := fun _ s' => Q .next s') rfl hs hclos hkind hnames
    (wpAny_mono h (fun xv s₁ h₁ => ?_) fun _ _ e => e)) (fun _ s' hq => wpAny_pure (wpAny_pure hq)) fun _ _ e => e)
  refine wpAny_mono h₁ (fun it s₂ h₂ => ?_) fun _ _ e => e
  obtain ⟨I, fp, n, P, St, S, news, rfl, W, hsz, hIo, hSt, hst, hfp, F, N, hIL, hI₀, off, hS, R⟩ := h₂
  refine block_U W hsz hIo hSt hcell hkind hx hst hfp F N hIL hI₀ off hS R ?_
  intro D C h' tk m' ys news' F' N' o1 hn hC₀ hD₀ hCL hDL hCD offC fin
  show wpAny _ A (assign (.Name y py) env (.ref D)) _ _ _
  refine wpAny_assign_Name (wpAny_storeName_local hy F'.ns (fun h₂ hn₂ hs₂ => ?_) hp)
  have hL₀ : h₀.get? env.locals = none := Heap.get?_none_of_le F'.above
  have F₂ : Fr h₀ env.locals h₂ (fun z => if z = y then some (.ref D) else m z) := ⟨hn₂, fun b o e => hs₂.extBut b o (fun q => by rw [q, hL₀] at e; cases e) (F'.keep b o e), F'.above⟩
  refine ⟨m', hn.sameBut hs₂ hCL, fun h'' hs'' => fin D h'' _ (F₂.change hs'' hCL hC₀) (fun p hp => ?_) o1⟩
  have z : h₂.get? p.1 = some p.2 := hs₂.extBut _ _ (N' p hp).2.1 (N' p hp).1
  refine ⟨hs''.extBut _ _ ?_ z, (N' p hp).2⟩
  rcases List.mem_cons.mp hp with rfl | hp
  · exact Ne.symm hCD
  · exact offC p hp
theorem ListComp_WT {ct elt iter : PySem.Expr} {x : Str} {px : Pos} {scope : Scope} {cl : List (Str × Addr)} {pos : Pos} {Q : Value → Shared → Prop}
    (F₀ : Fr h₀ L s.heap m) (hclos : closureFor scope env = pure cl) (hcell : ∀ y ∈ scope.names, y.2 ≠ .cell) (hkind : scope.kind = .function)
    (hnames : ∀ y ∈ scope.names, y.2 = .local → scope.names.lookup y.1 = some .local) (hx : scope.names.lookup x = some .local)
    (h : wpAny (model prog w) A (eval iter env) (SrcG prog w A h₀ L m E (fun s₂ S P n news => LCt.CompRestT prog w A h₀ L m env ct elt x scope cl s₂ S P (FinE h₀ L m s₂ Q) n 0 [] news)) E s)
    (hs : ∀ x, foldedSetIterable iter env x = pure x := by intro _; rfl) :
    wpAny (model prog w) A (eval (.ListComp elt [⟨.Name x px, iter, [ct], 0⟩] scope pos) env) Q E s := by
  rw [eval_ListComp]
  refine wpAny_comprehension_free (use := none) rfl hs hclos hkind hnames (wpAny_mono h (fun xv s₁ h₁ => ?_) fun _ _ e => e)
  refine wpAny_mono h₁ (fun it s₂ h₂ => ?_) fun _ _ e => e
  obtain ⟨I, fp, n, P, St, S, news, rfl, W, hsz, hIo, hSt, hst, hfp, F, N, hIL, hI₀, off, hS, R⟩ := h₂
  refine LCt.block_T W hsz hIo hSt hcell hkind hx hst hfp F N hIL hI₀ off hS R ?_
  intro D C h tk m' ys news' F' N' o1 hn hC₀ hD₀ hCL hDL hCD offC fin
  refine ⟨m', hn, fun h'' hs'' => fin D h'' tk (F'.change hs'' hCL hC₀) (fun p hp => ?_) o1⟩
  refine ⟨hs''.extBut _ _ ?_ (N' p hp).1, (N' p hp).2⟩
  rcases List.mem_cons.mp hp with rfl | hp
  · exact Ne.symm hCD
  · exact offC p hp
theorem Assign_ListComp_WT {ct elt iter : PySem.Expr} {x y : Str} {px py : Pos} {scope : Scope} {cl : List (Str × Addr)} {pos spos : Pos} {Q : Flow → Shared → Prop} (F₀ : Fr h₀ L s.heap m) (hLe : env.locals = L)
    (hsw : swapsWith (.ListComp elt [⟨.Name x px, iter, [ct], 0⟩] scope pos) (some (.Name y py)) spos.line env = pure true)
    (hclos : closureFor scope env = pure cl) (hcell : ∀ z ∈ scope.names, z.2 ≠ .cell) (hkind : scope.kind = .function)
    (hnames : ∀ z ∈ scope.names, z.2 = .local → scope.names.lookup z.1 = some .local) (hx : scope.names.lookup x = some .local)
    (hy : env.kindOf y = some .local) (hp : (env.scope.kind == .class || (env.scope.kind == .module && env.locals != env.globals)) = false)
    (h : wpAny (model prog w) A (eval iter env) (SrcG prog w A h₀ L m E (fun s₂ S P n news => LCt.CompRestT prog w A h₀ L m env ct elt x scope cl s₂ S P (FinA h₀ L m s₂ y Q) n 0 [] news)) E s)
    (hs : ∀ x, foldedSetIterable iter env x = pure x := by intro _; rfl) :
    wpAny (model prog w) A (exec (.Assign [.Name y py] (.ListComp elt [⟨.Name x px, iter, [ct], 0⟩] scope pos) spos) env) Q E s := by
  subst hLe
  rw [exec_Assign_Name_used _ _ _ _ hsw]
  refine wpAny_bind (wpAny_standAt (wpAny_bind ?_))
  show wpAny _ A (do let _ ← comprehension (.ListComp elt [⟨.Name x px, iter, [ct], 0⟩] scope pos) scope env _ (newList []) false (eval iter env) (some (assign (.Name y py) env))) _ _ s
  refine wpAny_bind (wpAny_mono (wpAny_comprehension_free (use := some (assign (.Name y py) env)) (Q := fun _ s' => Q .next s') rfl hs hclos hkind hnames
    (wpAny_mono h (fun xv s₁ h₁ => ?_) fun _ _ e => e)) (fun _ s' hq => wpAny_pure (wpAny_pure hq)) fun _ _ e => e)
  refine wpAny_mono h₁ (fun it s₂ h₂ => ?_) fun _ _ e => e
  obtain ⟨I, fp, n, P, St, S, news, rfl, W, hsz, hIo, hSt, hst, hfp, F, N, hIL, hI₀, off, hS, R⟩ := h₂
  refine LCt.block_T W hsz hIo hSt hcell hkind hx hst hfp F N hIL hI₀ off hS R ?_
  intro D C h' tk m' ys news' F' N' o1 hn hC₀ hD₀ hCL hDL hCD offC fin
  show wpAny _ A (assign (.Name y py) env (.ref D)) _ _ _
  refine wpAny_assign_Name (wpAny_storeName_local hy F'.ns (fun h₂ hn₂ hs₂ => ?_) hp)
  have hL₀ : h₀.get? env.locals = none := Heap.get?_none_of_le F'.above
  have F₂ : Fr h₀ env.locals h₂ (fun z => if z = y then some (.ref D) else m z) := ⟨hn₂, fun b o e => hs₂.extBut b o (fun q => by rw [q, hL₀] at e; cases e) (F'.keep b o e), F'.above⟩
  refine ⟨m', hn.sameBut hs₂ hCL, fun h'' hs'' => fin D h'' _ (F₂.change hs'' hCL hC₀) (fun p hp => ?_) o1⟩
  have z : h₂.get? p.1 = some p.2 := hs₂.extBut _ _ (N' p hp).2.1 (N' p hp).1
  refine ⟨hs''.extBut _ _ ?_ z, (N' p hp).2⟩
  rcases List.mem_cons.mp hp with rfl | hp
  · exact Ne.symm hCD
  · exact offC p hp
theorem off_new {s : Heap} {news : Led} (N : News h₀ L s news) : ∀ p ∈ news, p.1 ≠ s.objs.size := fun p hp => Nat.ne_of_lt (Heap.lt_size (N p hp).1)
/-- the source is a tuple of the ledger -/
theorem SrcG.tup {Rest : Shared → (Led → Prop) → (Nat → Value → Prop) → Nat → Led → Prop} {ax : Addr} {its : Array Value} {k : Nat} {news : Led} {s₁ : Shared}
    (hh : A.handled = none) (F : Fr h₀ L s₁.heap m) (N : News h₀ L s₁.heap news) (hm : (ax, ({ cls := .type "tuple", data := .seq its k } : Obj)) ∈ news) (hsz : its.size ≤ sizeLine)
    (h : ∀ g, Rest { s₁ with heap := g } (fun nw => (ax, ({ cls := .type "tuple", data := .seq its k } : Obj)) ∈ nw) (fun i v => its[i]? = some v) its.size news) :
    SrcG prog w A h₀ L m E Rest (.ref ax) s₁ := by
  have ht : s₁.heap.IsTuple ax its := ⟨_, (N _ hm).1, rfl, k, rfl⟩
  have hlt : ax < s₁.heap.objs.size := Heap.lt_size (N _ hm).1
  have up : ∀ b o, s₁.heap.get? b = some o → (s₁.heap.push { cls := .type "tuple_iterator", data := .fields #[.ref ax, .int 0 0] }).get? b = some o := fun b o e => Heap.get?_push_of_some _ e
  unfold SrcG
  refine wpAny_pyIter_tuple ht ⟨_, _, _, _, _, _, news, rfl, Walks.tuple hh s₁.heap.objs.size ax (Nat.ne_of_lt hlt) its, hsz, fun i h st => by obtain ⟨o, e, _⟩ := st.1; exact ⟨o, e⟩, ?_, ⟨⟨_, Heap.get?_push_size _ rfl, rfl, rfl⟩, ⟨_, up _ _ (N _ hm).1, rfl, k, rfl⟩⟩, fun b hb => ?_,
    F.keeps up, N.grown up, Nat.ne_of_lt F.ns.lt, next_is_new F, off_new N, hm, h _⟩
  · intro i h h' o nw st e e' _ N' hS
    exact ⟨by obtain ⟨o', q, r⟩ := st.1; rw [e] at q; cases q; exact ⟨o, e', r⟩, ⟨_, (N' _ hS).1, rfl, k, rfl⟩⟩
  · show b < (s₁.heap.push _).objs.size
    rw [Heap.size_push]
    rcases List.mem_cons.mp hb with rfl | hb
    · exact Nat.lt_succ_self _
    · rw [List.mem_singleton.mp hb]; exact Nat.lt_succ_of_lt hlt
/-- the source is a list of the ledger -/
theorem SrcG.lst {Rest : Shared → (Led → Prop) → (Nat → Value → Prop) → Nat → Led → Prop} {ax : Addr} {its : Array Value} {k : Nat} {news : Led} {s₁ : Shared}
    (hh : A.handled = none) (F : Fr h₀ L s₁.heap m) (N : News h₀ L s₁.heap news) (hm : (ax, ({ cls := .type "list", data := .seq its k } : Obj)) ∈ news) (hsz : its.size ≤ sizeLine)
    (h : ∀ g, Rest { s₁ with heap := g } (fun nw => (ax, ({ cls := .type "list", data := .seq its k } : Obj)) ∈ nw) (fun i v => its[i]? = some v) its.size news) :
    SrcG prog w A h₀ L m E Rest (.ref ax) s₁ := by
  have ht : s₁.heap.IsList ax its := ⟨_, (N _ hm).1, rfl, k, rfl⟩
  have hlt : ax < s₁.heap.objs.size := Heap.lt_size (N _ hm).1
  have up : ∀ b o, s₁.heap.get? b = some o → (s₁.heap.push { cls := .type "list_iterator", data := .fields #[.ref ax, .int 0 0] }).get? b = some o := fun b o e => Heap.get?_push_of_some _ e
  unfold SrcG
  refine wpAny_pyIter_list ht ⟨_, _, _, _, _, _, news, rfl, Walks.list hh s₁.heap.objs.size ax (Nat.ne_of_lt hlt) its, hsz, fun i h st => by obtain ⟨o, e, _⟩ := st.1; exact ⟨o, e⟩, ?_, ⟨⟨_, Heap.get?_push_size _ rfl, rfl, rfl⟩, ⟨_, up _ _ (N _ hm).1, rfl, k, rfl⟩⟩, fun b hb => ?_,
    F.keeps up, N.grown up, Nat.ne_of_lt F.ns.lt, next_is_new F, off_new N, hm, h _⟩
  · intro i h h' o nw st e e' _ N' hS
    exact ⟨by obtain ⟨o', q, r⟩ := st.1; rw [e] at q; cases q; exact ⟨o, e', r⟩, ⟨_, (N' _ hS).1, rfl, k, rfl⟩⟩
  · show b < (s₁.heap.push _).objs.size
    rw [Heap.size_push]
    rcases List.mem_cons.mp hb with rfl | hb
    · exact Nat.lt_succ_self _
    · rw [List.mem_singleton.mp hb]; exact Nat.lt_succ_of_lt hlt
/-- the source is a text -/
theorem SrcG.text {Rest : Shared → (Led → Prop) → (Nat → Value → Prop) → Nat → Led → Prop} {tx : Str} {t : Tok} {news : Led} {s₁ : Shared}
    (hh : A.handled = none) (F : Fr h₀ L s₁.heap m) (N : News h₀ L s₁.heap news) (hsz : tx.cps.size ≤ sizeLine)
    (h : ∀ g, Rest { s₁ with heap := g } (fun _ => True) (SignAt tx) tx.cps.size news) :
    SrcG prog w A h₀ L m E Rest (.str tx t) s₁ := by
  have go : ∀ (T : String) (o : Obj), o = { cls := .type T, data := o.data } → Walks prog w A s₁.heap.objs.size [s₁.heap.objs.size] [s₁.heap.objs.size] tx.cps.size (SignAt tx) (fun i h => h.IsStrIter s₁.heap.objs.size T tx t i) → (s₁.heap.push o).IsStrIter s₁.heap.objs.size T tx t 0 →
      (fun (it : Value) (s₂ : Shared) => ∃ (I : Addr) (fp : List Addr) (n : Nat) (P : Nat → Value → Prop) (St : Nat → Heap → Prop) (S : Led → Prop) (news : Led), it = .ref I ∧ Walks prog w A I fp [I] n P St ∧ n ≤ sizeLine ∧
    (∀ i h, St i h → ∃ o, h.get? I = some o) ∧ (∀ i h h' o nw, St i h → h.get? I = some o → h'.get? I = some o → (∀ b o, h₀.get? b = some o → h'.get? b = some o) → News h₀ L h' nw → S nw → St i h') ∧
    St 0 s₂.heap ∧ (∀ b ∈ fp, b < s₂.heap.objs.size) ∧ Fr h₀ L s₂.heap m ∧ News h₀ L s₂.heap news ∧ L ≠ I ∧ h₀.get? I = none ∧ (∀ p ∈ news, p.1 ≠ I) ∧ S news ∧
    Rest s₂ S P n news) (.ref s₁.heap.objs.size) { s₁ with heap := s₁.heap.push o } := by
    intro T o _ W hst
    refine ⟨_, _, _, _, _, fun _ => True, news, rfl, W, hsz, fun i h st => by obtain ⟨o, e, _⟩ := st; exact ⟨o, e⟩, ?_, hst, fun b hb => ?_, F.keeps fun _ _ e => Heap.get?_push_of_some _ e, N.grown fun _ _ e => Heap.get?_push_of_some _ e, Nat.ne_of_lt F.ns.lt, next_is_new F, off_new N, trivial, h _⟩
    · intro i h h' o nw st e e' _ _ _
      obtain ⟨o', q, r⟩ := st
      rw [e] at q
      cases q
      exact ⟨o, e', r⟩
    · rw [List.mem_singleton.mp hb]
      show s₁.heap.objs.size < (s₁.heap.push _).objs.size
      rw [Heap.size_push]; exact Nat.lt_succ_self _
  unfold SrcG
  cases ha : tx.cps.all (· < 128)
  · exact wpAny_pyIter_wide ha (go "str_iterator" _ rfl (Walks.strWide hh _ tx t) ⟨_, Heap.get?_push_size _ rfl, rfl, rfl⟩)
  · exact wpAny_pyIter_ascii ha (go "str_ascii_iterator" _ rfl (Walks.strAscii hh _ tx t) ⟨_, Heap.get?_push_size _ rfl, rfl, rfl⟩)
/-- the source is a range -/
theorem SrcG.range {Rest : Shared → (Led → Prop) → (Nat → Value → Prop) → Nat → Led → Prop} {r : Addr} {a b : Int} {t u v : Tok} {n : Nat} {news : Led} {s₁ : Shared}
    (hh : A.handled = none) (F : Fr h₀ L s₁.heap m) (N : News h₀ L s₁.heap news) (hr : IsRange s₁.heap r a b 1 t u v) (hsm : Builtin.Range.small a b 1 = true) (hn : Builtin.Range.rangeSize a b 1 = ((n : Nat) : Int)) (hsz : n ≤ sizeLine)
    (h : ∀ g, Rest { s₁ with heap := g } (fun _ => True) (fun i v => ∃ t, v = .int (a + (i : Int)) t) n news) :
    SrcG prog w A h₀ L m E Rest (.ref r) s₁ := by
  unfold SrcG
  refine wpAny_pyIter_range hr hsm ⟨_, _, _, _, _, fun _ => True, news, rfl, range_walks hh a n, hsz, fun i h st => ⟨_, st⟩, range_st, (by show IsRangeIter _ _ _ _ _; rw [hn]; simpa using Heap.get?_push_size _ rfl), fun b hb => ?_,
    F.keeps fun _ _ e => Heap.get?_push_of_some _ e, N.grown fun _ _ e => Heap.get?_push_of_some _ e, Nat.ne_of_lt F.ns.lt, next_is_new F, off_new N, trivial, h _⟩
  rw [List.mem_singleton.mp hb]
  show s₁.heap.objs.size < (s₁.heap.push _).objs.size
  rw [Heap.size_push]; exact Nat.lt_succ_self _
/-- the turns, by an invariant -/
theorem rest_inv {elt : PySem.Expr} {x : Str} {scope : Scope} {cl : List (Str × Addr)} {S : Led → Prop} {P : Nat → Value → Prop} {Fin : List Value → Led → Prop} {n : Nat} {news : Led} (Inv : Nat → List Value → Led → Prop) (h0 : Inv 0 [] news)
    (turn : ∀ i ys news, i < n → Inv i ys news → ∀ v I oI C oC D m₂ h tk (E' : Value → Shared → Prop), P i v → NsObj oC m₂ → m₂ x = some v → Fr h₀ L h m → News h₀ L h ((I, oI) :: (C, oC) :: (D, LCg.lst ys) :: news) → Off3 I C D news → ((@Ne Nat I C) ∧ (@Ne Nat I D) ∧ (@Ne Nat C D)) →
      wpAny (model prog w) A (eval elt (compEnvC scope cl C env)) (CompEnd h₀ L m { s with heap := h, toks := tk } I oI C oC D (LCg.lst ys) S (fun y news' => Inv (i + 1) (ys ++ [y]) news')) E' { s with heap := h, toks := tk })
    (fin : ∀ ys news, Inv n ys news → Fin ys news) : CompRest prog w A h₀ L m env elt x scope cl s S P Fin n 0 [] news := by
  have key : ∀ (j i : Nat) (ys : List Value) (news : Led), i + j = n → Inv i ys news → CompRest prog w A h₀ L m env elt x scope cl s S P Fin j i ys news := by
    intro j
    induction j with
    | zero =>
      intro i ys news hi hy
      have e : i = n := by omega
      subst e
      exact CompRest.zero (fin ys news hy)
    | succ j ih =>
      intro i ys news hi hy
      refine CompRest.succ ?_
      intro v I oI C oC D m₂ h tk E' hv hC hx F N off ne
      refine wpAny_mono (turn i ys news (by omega) hy v I oI C oC D m₂ h tk E' hv hC hx F N off ne) (fun y s₂ hq => ?_) fun _ _ e => e
      obtain ⟨h', tk', nw, e, F', N', off', hS, hn⟩ := hq
      exact ⟨h', tk', nw, e, F', N', off', hS, ih (i + 1) _ nw (by omega) hn⟩
  exact key n 0 [] news (by omega) h0
/-- the turns with a test, by an invariant -/
theorem restT_inv {ct elt : PySem.Expr} {x : Str} {scope : Scope} {cl : List (Str × Addr)} {S : Led → Prop} {P : Nat → Value → Prop} {Fin : List Value → Led → Prop} {n : Nat} {news : Led} (Inv : Nat → List Value → Led → Prop) (h0 : Inv 0 [] news)
    (turn : ∀ i ys news, i < n → Inv i ys news → ∀ v I oI C oC D m₂ h tk (E' : Value → Shared → Prop), P i v → NsObj oC m₂ → m₂ x = some v → Fr h₀ L h m → News h₀ L h ((I, oI) :: (C, oC) :: (D, LCg.lst ys) :: news) → Off3 I C D news → ((@Ne Nat I C) ∧ (@Ne Nat I D) ∧ (@Ne Nat C D)) →
      wpAny (model prog w) A (isTrue ct (compEnvC scope cl C env) (eval ct (compEnvC scope cl C env))) (fun ok s' => if ok = true then
        wpAny (model prog w) A (eval elt (compEnvC scope cl C env)) (CompEnd h₀ L m { s with heap := h, toks := tk } I oI C oC D (LCg.lst ys) S (fun y news' => Inv (i + 1) (ys ++ [y]) news')) E' s'
        else CompEnd h₀ L m { s with heap := h, toks := tk } I oI C oC D (LCg.lst ys) S (fun _ news' => Inv (i + 1) ys news') Value.none s') E' { s with heap := h, toks := tk })
    (fin : ∀ ys news, Inv n ys news → Fin ys news) : LCt.CompRestT prog w A h₀ L m env ct elt x scope cl s S P Fin n 0 [] news := by
  have key : ∀ (j i : Nat) (ys : List Value) (news : Led), i + j = n → Inv i ys news → LCt.CompRestT prog w A h₀ L m env ct elt x scope cl s S P Fin j i ys news := by
    intro j
    induction j with
    | zero =>
      intro i ys news hi hy
      have e : i = n := by omega
      subst e
      exact LCt.CompRestT.zero (fin ys news hy)
    | succ j ih =>
      intro i ys news hi hy
      refine LCt.CompRestT.succ ?_
      intro v I oI C oC D m₂ h tk E' hv hC hx F N off ne
      refine wpAny_mono (turn i ys news (by omega) hy v I oI C oC D m₂ h tk E' hv hC hx F N off ne) (fun ok s₂ hq => ?_) fun _ _ e => e
      cases ok
      · rw [if_neg (by decide)] at hq ⊢
        obtain ⟨h', tk', nw, e, F', N', off', hS, hn⟩ := hq
        exact ⟨h', tk', nw, e, F', N', off', hS, ih (i + 1) _ nw (by omega) hn⟩
      · rw [if_pos rfl] at hq ⊢
        refine wpAny_mono hq (fun y s₃ hq' => ?_) fun _ _ e => e
        obtain ⟨h', tk', nw, e, F', N', off', hS, hn⟩ := hq'
        exact ⟨h', tk', nw, e, F', N', off', hS, ih (i + 1) _ nw (by omega) hn⟩
  exact key n 0 [] news (by omega) h0
end
-- E4
noncomputable section
set_option maxRecDepth 100000
open LCg
variable {prog : Program} {w : World} {A : Around} {E : Value → Shared → Prop} {s : Shared} {h₀ : Heap} {L : Addr} {m : Str → Option Value} {env : Env}
/-- a for statement's source: an iterator that keeps its state in itself -/
noncomputable def SrcF (prog : Program) (w : World) (A : Around) (h₀ : Heap) (L : Addr) (m : Str → Option Value) (E : Value → Shared → Prop) (Rest : Shared → (Nat → Value → Prop) → Nat → Led → Prop) (xv : Value) (s₁ : Shared) : Prop :=
  wpAny (model prog w) A (pyIter xv) (fun it s₂ => ∃ (I : Addr) (n : Nat) (P : Nat → Value → Prop) (St : Nat → Heap → Prop) (news : Led), it = .ref I ∧ Walks prog w A I [I] [I] n P St ∧
    St 0 s₂.heap ∧ Fr h₀ L s₂.heap m ∧ News h₀ L s₂.heap news ∧ L ≠ I ∧ h₀.get? I = none ∧ (∃ o, s₂.heap.get? I = some o) ∧ (∀ i h, St i h → ∃ o, h.get? I = some o ∧ o.cls ≠ .type "tuple") ∧ (∀ p ∈ news, p.1 ≠ I) ∧ Rest s₂ P n news) E s₁
noncomputable def ForPost (h₀ : Heap) (L I : Addr) (oI : Obj) (Jn : (Str → Option Value) → Led → Prop) (s₁ : Shared) (Q : Flow → Shared → Prop) (f : Flow) (s₂ : Shared) : Prop :=
  match f with
  | .ret v => Q (.ret v) s₂
  | .brk => Q .next s₂
  | _ => ∃ h' tk m₂ news₂, s₂ = { s₁ with heap := h', toks := tk } ∧ Fr h₀ L h' m₂ ∧ News h₀ L h' ((I, oI) :: news₂) ∧ (∀ p ∈ news₂, p.1 ≠ I) ∧ Jn m₂ news₂
/-- what is left to show of a for statement, by an invariant -/
noncomputable def ForRest (prog : Program) (w : World) (A : Around) (h₀ : Heap) (env : Env) (m : Str → Option Value) (x : Str) (body : List Stmt) (Q : Flow → Shared → Prop) (E : Value → Shared → Prop) (s₂ : Shared) (P : Nat → Value → Prop) (n : Nat) (news : Led) : Prop :=
  ∃ (J : Nat → (Str → Option Value) → Led → Prop), J 0 m news ∧
    (∀ i v m₁ news₁ h tk I oI, i < n → P i v → J i m₁ news₁ → (∀ p ∈ news₁, p.1 ≠ I) → Fr h₀ env.locals h (fun y => if y = x then some v else m₁ y) → News h₀ env.locals h ((I, oI) :: news₁) → oI.cls ≠ .type "tuple" →
      wpAny (model prog w) A (execs body env) (ForPost h₀ env.locals I oI (J (i + 1)) { s₂ with heap := h, toks := tk } Q) E { s₂ with heap := h, toks := tk }) ∧
    ∀ h' tk m' news', Fr h₀ env.locals h' m' → News h₀ env.locals h' news' → J n m' news' → Q .next { s₂ with heap := h', toks := tk }
theorem For_W {Q : Flow → Shared → Prop} {x : Str} {px pos : Pos} {iter : PySem.Expr} {body : List Stmt} (F₀ : Fr h₀ env.locals s.heap m) (hx : env.kindOf x = some .local)
    (hp : (env.scope.kind == .class || (env.scope.kind == .module && env.locals != env.globals)) = false)
    (h : wpAny (model prog w) A (eval iter env) (SrcF prog w A h₀ env.locals m E (ForRest prog w A h₀ env m x body Q E)) E s)
    (hs : ∀ x, foldedSetIterable iter env x = pure x := by intro _; rfl)
    (hE : PassesOwn (model prog w) A env E := by passes_own) :
    wpAny (model prog w) A (exec (.For (.Name x px) iter body [] pos) env) Q E s := by
  refine For_invV h₀ hx hp (wpAny_mono h (fun xv s₁ h₁ => ?_) fun _ _ e => e) hs hE
  refine wpAny_mono h₁ (fun it s₂ h₂ => ?_) fun _ _ e => e
  obtain ⟨I, n, P, St, news, rfl, W, hst, F, N, hLI, hI₀, hIo, hSo, off, J, h0, turn, fin⟩ := h₂
  refine ⟨I, [I], [I], n, P, St, m, news, J, rfl, W, fun hm => hLI (List.mem_singleton.mp hm), fun b hb => by rw [List.mem_singleton.mp hb]; exact hI₀, fun p hp hm => off p hp (List.mem_singleton.mp hm), hst, F, N, h0, ?_, fun h' tk m' news' F' N' _ hJ => fin h' tk m' news' F' N' hJ⟩
  rintro i v m₁ news₁ _ own ⟨h, tk, rfl⟩ hi hP hJ hnw hof hoh hoa hst' F₁ N₁
  obtain ⟨oI, hoI, hcI⟩ := hSo _ _ hst'
  have hin : (I, oI) ∈ own := hoa I (List.mem_singleton.mpr rfl) hI₀ oI hoI
  have hall : ∀ p ∈ own, p = (I, oI) := fun p hp => by
    have e1 := List.mem_singleton.mp (hof p hp)
    have e2 := hoh p hp
    obtain ⟨a, o⟩ := p
    dsimp only at e1 e2
    subst e1
    rw [hoI] at e2
    rw [← Option.some.inj e2]
  have NN : News h₀ env.locals h ((I, oI) :: news₁) := fun p hp => by
    rcases List.mem_cons.mp hp with rfl | hp
    · exact N₁ _ (List.mem_append_left _ hin)
    · exact N₁ _ (List.mem_append_right _ hp)
  refine wpAny_mono (turn i v m₁ news₁ h tk I oI hi hP hJ (fun p hp q => hnw p hp (List.mem_singleton.mpr q)) F₁ NN hcI) (fun f s₃ h₃ => ?_) fun _ _ e => e
  have step : (∃ h' tk' m₂ news₂, s₃ = { s₂ with heap := h', toks := tk' } ∧ Fr h₀ env.locals h' m₂ ∧ News h₀ env.locals h' ((I, oI) :: news₂) ∧ (∀ p ∈ news₂, p.1 ≠ I) ∧ J (i + 1) m₂ news₂) →
      LoopStepU h₀ env.locals [I] own (J (i + 1)) { s₂ with heap := h, toks := tk } .next s₃ := by
    rintro ⟨h', tk', m₂, news₂, rfl, F₂, N₂, off₂, hJ₂⟩
    refine ⟨rfl, h', tk', m₂, news₂, rfl, F₂, fun p hp => ?_, fun p hp q => off₂ p hp (List.mem_singleton.mp q), hJ₂⟩
    rcases List.mem_append.mp hp with hp | hp
    · rw [hall p hp]; exact N₂ _ (.head _)
    · exact N₂ _ (.tail _ hp)
  cases f with
  | ret v => exact h₃
  | brk => exact h₃
  | cont => exact step h₃
  | next => exact step h₃
theorem off_map {I : Addr} {a b : Led} (h : ∀ p ∈ a, p.1 ≠ I) (e : b.map (·.1) = a.map (·.1)) : ∀ p ∈ b, p.1 ≠ I := by
  intro p hp
  have hm : p.1 ∈ b.map (·.1) := List.mem_map_of_mem hp
  rw [e] at hm
  obtain ⟨q, hq, e'⟩ := List.mem_map.mp hm
  rw [← e']
  exact h q hq
theorem SrcF.text {Rest : Shared → (Nat → Value → Prop) → Nat → Led → Prop} {tx : Str} {t : Tok} {news : Led} {s₁ : Shared}
    (hh : A.handled = none) (F : Fr h₀ L s₁.heap m) (N : News h₀ L s₁.heap news) (h : ∀ g, Rest { s₁ with heap := g } (SignAt tx) tx.cps.size news) :
    SrcF prog w A h₀ L m E Rest (.str tx t) s₁ := by
  unfold SrcF
  have fin : ∀ (T : String) (o : Obj), Value.type T ≠ .type "tuple" → o = { cls := .type T, data := o.data } → Walks prog w A s₁.heap.objs.size [s₁.heap.objs.size] [s₁.heap.objs.size] tx.cps.size (SignAt tx) (fun i h => h.IsStrIter s₁.heap.objs.size T tx t i) → (s₁.heap.push o).IsStrIter s₁.heap.objs.size T tx t 0 →
      (fun (it : Value) (s₂ : Shared) => ∃ (I : Addr) (n : Nat) (P : Nat → Value → Prop) (St : Nat → Heap → Prop) (news : Led), it = .ref I ∧ Walks prog w A I [I] [I] n P St ∧
    St 0 s₂.heap ∧ Fr h₀ L s₂.heap m ∧ News h₀ L s₂.heap news ∧ L ≠ I ∧ h₀.get? I = none ∧ (∃ o, s₂.heap.get? I = some o) ∧ (∀ i h, St i h → ∃ o, h.get? I = some o ∧ o.cls ≠ .type "tuple") ∧ (∀ p ∈ news, p.1 ≠ I) ∧ Rest s₂ P n news) (.ref s₁.heap.objs.size) { s₁ with heap := s₁.heap.push o } := by
    intro T o hT _ W hst
    exact ⟨_, _, _, _, news, rfl, W, hst, F.keeps fun _ _ e => Heap.get?_push_of_some _ e, N.grown fun _ _ e => Heap.get?_push_of_some _ e, Nat.ne_of_lt F.ns.lt, next_is_new F, by obtain ⟨o', e, _⟩ := hst; exact ⟨o', e⟩, fun i h st => by obtain ⟨o, e, hc, _⟩ := st; exact ⟨o, e, by rw [hc]; exact hT⟩, off_new N, h _⟩
  cases ha : tx.cps.all (· < 128)
  · exact wpAny_pyIter_wide ha (fin "str_iterator" _ (fun h => absurd (Value.type.inj h) (by decide)) rfl (Walks.strWide hh _ tx t) ⟨_, Heap.get?_push_size _ rfl, rfl, rfl⟩)
  · exact wpAny_pyIter_ascii ha (fin "str_ascii_iterator" _ (fun h => absurd (Value.type.inj h) (by decide)) rfl (Walks.strAscii hh _ tx t) ⟨_, Heap.get?_push_size _ rfl, rfl, rfl⟩)
theorem SrcF.range {Rest : Shared → (Nat → Value → Prop) → Nat → Led → Prop} {r : Addr} {a b : Int} {t u v : Tok} {n : Nat} {news : Led} {s₁ : Shared}
    (hh : A.handled = none) (F : Fr h₀ L s₁.heap m) (N : News h₀ L s₁.heap news) (hr : IsRange s₁.heap r a b 1 t u v) (hsm : Builtin.Range.small a b 1 = true) (hn : Builtin.Range.rangeSize a b 1 = ((n : Nat) : Int))
    (h : ∀ g, Rest { s₁ with heap := g } (fun i v => ∃ t, v = .int (a + (i : Int)) t) n news) :
    SrcF prog w A h₀ L m E Rest (.ref r) s₁ := by
  unfold SrcF
  exact wpAny_pyIter_range hr hsm ⟨_, _, _, _, news, rfl, range_walks hh a n, (by show IsRangeIter _ _ _ _ _; rw [hn]; simpa using Heap.get?_push_size _ rfl), F.keeps fun _ _ e => Heap.get?_push_of_some _ e, N.grown fun _ _ e => Heap.get?_push_of_some _ e, Nat.ne_of_lt F.ns.lt, next_is_new F, ⟨_, Heap.get?_push_size _ rfl⟩, fun i h st => ⟨_, st, fun h => absurd (Value.type.inj h) (by decide)⟩, off_new N, h _⟩
/-- a for statement over a tuple of the ledger -/
noncomputable def SrcT (prog : Program) (w : World) (A : Around) (h₀ : Heap) (env : Env) (m : Str → Option Value) (target : PySem.Expr) (body : List Stmt) (Q : Flow → Shared → Prop) (E : Value → Shared → Prop) (xv : Value) (s₁ : Shared) : Prop :=
  ∃ (ax : Addr) (items : Array Value) (k : Nat) (news : Led) (J : Nat → (Str → Option Value) → Led → Prop), xv = .ref ax ∧ A.handled = none ∧ (∀ i m' nw, J i m' nw → (ax, ({ cls := .type "tuple", data := .seq items k } : Obj)) ∈ nw) ∧ Fr h₀ env.locals s₁.heap m ∧ News h₀ env.locals s₁.heap news ∧ J 0 m news ∧
    (∀ i v m₁ news₁ h tk I oI, items[i]? = some v → oI.cls = .type "tuple_iterator" → J i m₁ news₁ → (∀ p ∈ news₁, p.1 ≠ I) → Fr h₀ env.locals h m₁ → News h₀ env.locals h ((I, oI) :: news₁) →
      wpAny (model prog w) A (assign target env v) (fun _ s₃ => wpAny (model prog w) A (execs body env) (ForPost h₀ env.locals I oI (J (i + 1)) { s₁ with heap := h, toks := tk } Q) E s₃) E { s₁ with heap := h, toks := tk }) ∧
    ∀ h' tk m' news', Fr h₀ env.locals h' m' → News h₀ env.locals h' news' → J items.size m' news' → Q .next { s₁ with heap := h', toks := tk }
theorem For_T {Q : Flow → Shared → Prop} {target : PySem.Expr} {pos : Pos} {iter : PySem.Expr} {body : List Stmt} (F₀ : Fr h₀ env.locals s.heap m)
    (h : wpAny (model prog w) A (eval iter env) (SrcT prog w A h₀ env m target body Q E) E s)
    (hs : ∀ x, foldedSetIterable iter env x = pure x := by intro _; rfl)
    (hE : PassesOwn (model prog w) A env E := by passes_own) :
    wpAny (model prog w) A (exec (.For target iter body [] pos) env) Q E s := by
  refine For_turns F₀ (wpAny_mono h (fun xv s₁ h₁ => ?_) fun _ _ e => e) hs hE
  obtain ⟨ax, items, k, news, J, rfl, hh, hJm, F, N, h0, turn, fin⟩ := h₁
  have hm := hJm _ _ _ h0
  have ht₁ : s₁.heap.IsTuple ax items := ⟨_, (N _ hm).1, rfl, k, rfl⟩
  have hlt : ax < s₁.heap.objs.size := Heap.lt_size (N _ hm).1
  have hne : ax ≠ s₁.heap.objs.size := Nat.ne_of_lt hlt
  refine wpAny_pyIter_tuple ht₁ ?_
  have up : ∀ b o, s₁.heap.get? b = some o → (s₁.heap.push { cls := .type "tuple_iterator", data := .fields #[.ref ax, .int 0 0] }).get? b = some o := fun b o e => Heap.get?_push_of_some _ e
  refine ⟨s₁.heap.objs.size, [s₁.heap.objs.size, ax], [s₁.heap.objs.size], items.size, _, _, _, m, news, J, rfl, KTurns.ofWalks (Walks.tuple hh s₁.heap.objs.size ax hne items) fun i v s Q E st q => letGo_tupleiter st.1 q, fun hm => ?_, fun b hb => ?_, fun p hp hm => ?_, ⟨⟨_, Heap.get?_push_size _ rfl, rfl, rfl⟩, ht₁.at fun o e => up _ _ e⟩, F.keeps up, N.grown up, h0, ?_, fun h' tk m' news' F' N' _ hJ => fin h' tk m' news' F' N' hJ⟩
  · rcases List.mem_cons.mp hm with e | hm
    · exact absurd F.ns.lt (e ▸ Nat.lt_irrefl _)
    · exact (N _ (hJm _ _ _ h0)).2.1 (List.mem_singleton.mp hm).symm
  · rw [List.mem_singleton.mp hb]; exact next_is_new F
  · exact absurd (Heap.lt_size (N p hp).1) ((List.mem_singleton.mp hm) ▸ Nat.lt_irrefl _)
  · rintro i v m₁ news₁ h tk own hi hP hJ hnw hof hoh hoa hst' F₁ N₁
    obtain ⟨oI, hoI, hcI, _⟩ := hst'.1
    have hm₁ := hJm _ _ _ hJ
    have hin : (s₁.heap.objs.size, oI) ∈ own := hoa _ (.head _) (next_is_new F) oI hoI
    have hall : ∀ p ∈ own, p = (s₁.heap.objs.size, oI) ∨ p = (ax, ({ cls := .type "tuple", data := .seq items k } : Obj)) := fun p hp => by
      have e2 := hoh p hp
      obtain ⟨a, o⟩ := p
      rcases List.mem_cons.mp (hof _ hp) with e1 | e1
      · dsimp only at e1 e2
        subst e1
        rw [hoI] at e2
        rw [← Option.some.inj e2]
        exact .inl rfl
      · have e1 := List.mem_singleton.mp e1
        dsimp only at e1 e2
        subst e1
        rw [(N₁ _ (List.mem_append_right _ hm₁)).1] at e2
        rw [← Option.some.inj e2]
        exact .inr rfl
    have NN : News h₀ env.locals h ((s₁.heap.objs.size, oI) :: news₁) := fun p hp => by
      rcases List.mem_cons.mp hp with rfl | hp
      · exact N₁ _ (List.mem_append_left _ hin)
      · exact N₁ _ (List.mem_append_right _ hp)
    refine wpAny_mono (turn i v m₁ news₁ h tk _ oI hP hcI hJ (fun p hp q => hnw p hp (List.mem_singleton.mpr q)) F₁ NN) (fun _ s₃ h₃ => wpAny_mono h₃ (fun f s₄ h₄ => ?_) fun _ _ e => e) fun _ _ e => e
    have step : (∃ h' tk' m₂ news₂, s₄ = { s₁ with heap := h', toks := tk' } ∧ Fr h₀ env.locals h' m₂ ∧ News h₀ env.locals h' ((s₁.heap.objs.size, oI) :: news₂) ∧ (∀ p ∈ news₂, p.1 ≠ s₁.heap.objs.size) ∧ J (i + 1) m₂ news₂) →
        LoopStepU h₀ env.locals [s₁.heap.objs.size] own (J (i + 1)) { s₁ with heap := h, toks := tk } .next s₄ := by
      rintro ⟨h', tk', m₂, news₂, rfl, F₂, N₂, off₂, hJ₂⟩
      refine ⟨rfl, h', tk', m₂, news₂, rfl, F₂, fun p hp => ?_, fun p hp q => off₂ p hp (List.mem_singleton.mp q), hJ₂⟩
      rcases List.mem_append.mp hp with hp | hp
      · rcases hall p hp with q | q
        · rw [q]; exact N₂ _ (.head _)
        · rw [q]; exact N₂ _ (.tail _ (hJm _ _ _ hJ₂))
      · exact N₂ _ (.tail _ hp)
    cases f with
    | ret v => exact h₄
    | brk => exact h₄
    | cont => exact step h₄
    | next => exact step h₄
end
-- D3
noncomputable section
set_option maxRecDepth 100000

theorem Does.nil {w : World} {d u : Nat} {P : Heap → Prop} {f : Addr} {vs : List Value} {led' : Led} {R : Value → Led → Prop} (D : Does w d u P f vs [] R)
    {mean : ExcName → Option Value} {mg mb : Str → Option Value} {dp un : Nat} {gd : Option (List Code)} {cn : Str} {cs : Scope} {a : Addr} {ccd : Value} {cl : List (Str × Addr)} {outer : List Env} {A₀ : Around} {base h₀ : Heap} {L : Addr} {m : Str → Option Value} {s : Shared}
    {Q E : Value → Shared → Prop} (B : Below A₀ base outer h₀) (F : Fr h₀ L s.heap m) (X : (K w.params).In h₀) (N : News h₀ L s.heap led') (T : Tp mean mg mb h₀) (hk : cs.kind = .function) (hP : P h₀) (hd : dp + d < recursionLimit) (hu : un + u < cLine)
    (k : ∀ r nx h' tk', Fr h₀ L h' m → News h₀ L h' (nx ++ led') → R r nx → Q r { s with heap := h', toks := tk' }) :
    wpAny (model Pg w) (ktrTop dp un gd cn cs L a ccd cl outer) (call (.ref f) vs) Q E s :=
  D mean mg mb dp un gd cn cs a ccd cl outer A₀ base h₀ L m s h₀ Q E B F X News.nil T hk hP F.keep (fun _ h => nomatch h) hd hu fun r nx h' tk' F' N' kp hr =>
    k r nx h' tk' F' (news_append N' fun p hp => ⟨kp _ _ (N p hp).1 (fun _ h => nomatch h), (N p hp).2⟩) hr
theorem law_bound {row : Str} {a d p : Int} {i : Bool} (h : 0 ≤ a ∧ a ≤ row.length) (hq : mapRes (· - 1) (fwd (codesOf row) (a + 1) d i) = .at_ p) : 0 ≤ p ∧ p ≤ row.length := by
  cases q : fwd (codesOf row) (a + 1) d i with
  | at_ r =>
    have := fwd_bound (codes := codesOf row) (by omega) (by rw [codes_len]; omega) q
    rw [codes_len] at this
    rw [q] at hq
    cases hq
    dsimp only
    omega
  | none => rw [q] at hq; cases hq
  | soon _ _ => rw [q] at hq; cases hq
  | unbal _ _ => rw [q] at hq; cases hq
theorem told_step {codes : List Int} {a d p : Int} {i : Bool} {k : Nat} {l : List Value} (hq : mapRes (· - 1) (fwd codes a d i) = .at_ p) (h : ToldIs (mapRes (· - 1) (fwdN codes i k (p + 1) 0)) l) : ToldIs (mapRes (· - 1) (fwdN codes i (k + 1) a d)) l := by
  unfold fwdN
  cases q : fwd codes a d i with
  | at_ r =>
    rw [q] at hq
    have e : r - 1 = p := by cases hq; rfl
    have e2 : r = p + 1 := by omega
    subst e2
    exact h
  | none => rw [q] at hq; cases hq
  | soon _ _ => rw [q] at hq; cases hq
  | unbal _ _ => rw [q] at hq; cases hq
theorem told_stop {codes : List Int} {a d : Int} {i : Bool} {k : Nat} {l : List Value} {res : Res} (hq : mapRes (· - 1) (fwd codes a d i) = res) (hn : ∀ p, res ≠ .at_ p) (h : ToldIs res l) : ToldIs (mapRes (· - 1) (fwdN codes i (k + 1) a d)) l := by
  unfold fwdN
  cases q : fwd codes a d i with
  | at_ r => rw [q] at hq; exact absurd hq.symm (hn _)
  | none => rw [q] at hq; subst hq; exact h
  | soon _ _ => rw [q] at hq; subst hq; exact h
  | unbal _ _ => rw [q] at hq; subst hq; exact h
theorem told_zero {codes : List Int} {a d q : Int} {i : Bool} {t u : Tok} (h : a - 1 = q) : ToldIs (mapRes (· - 1) (fwdN codes i 0 a d)) [.str (Str.ofString "at") t, .int q u] := toldAt h
theorem scan_turn {codes : List Int} {a d p : Int} {i : Bool} {k : Nat} {res : Res} (hq : mapRes (· - 1) (fwd codes a d i) = .at_ p) (h : fwdN codes i (k + 1) a d = res) : fwdN codes i k (p + 1) 0 = res := by
  rw [← h]
  unfold fwdN
  cases q : fwd codes a d i with
  | at_ r =>
    rw [q] at hq
    have e : r - 1 = p := by cases hq; rfl
    have e2 : r = p + 1 := by omega
    subst e2
    cases k <;> rfl
  | none => rw [q] at hq; cases hq
  | soon _ _ => rw [q] at hq; cases hq
  | unbal _ _ => rw [q] at hq; cases hq
abbrev foundAt (a : Int) (t u : Tok) (n : Nat) : Obj := { cls := .type "tuple", data := .seq #[.str (Str.ofString "at") t, .int a u] n }
theorem small_count {count : Int} (h : 0 ≤ count ∧ count ≤ 3) : Builtin.Range.small 0 count 1 = true := by
  obtain ⟨h1, h2⟩ := h
  have : count = 0 ∨ count = 1 ∨ count = 2 ∨ count = 3 := by omega
  rcases this with rfl | rfl | rfl | rfl <;> decide
set_option maxHeartbeats 16000000 in
theorem law_scan_does (w : World) (row : Str) (at_ count d : Int) (tr ta tk td : Tok) (i : Bool) (hl : row.length ≤ 90) (hc : Codes (codesOf row)) (hp : 0 ≤ at_ ∧ at_ ≤ row.length) (hct : 0 ≤ count ∧ count ≤ 3) :
    Does w 3 24 Any 681 [.str row tr, .int at_ ta, .int count tk, .int d td, .bool i] [] (fun r nx => LedIs (mapRes (· - 1) (fwdN (codesOf row) i count.toNat (at_ + 1) d)) r nx) := by
  obtain ⟨k, rfl⟩ : ∃ k : Nat, count = k := ⟨count.toNat, by omega⟩
  rw [Int.toNat_natCast]
  unfold Does
  intro mean mg mb dp un gd cn cs a ccd cl outer A₀ base h₀ L m s g₀ Q E B F X N T hk hP st dj hd hu hret
  refine wpAny_call ?_
  k_dflt (refine' enter (binds := [(Str.ofString "row", .str row tr), (Str.ofString "at", .int at_ ta), (Str.ofString "count", .int k tk), (Str.ofString "depth", .int d td), (Str.ofString "is_expression", .bool i)]) ?k1 ?k2 ?k3 ?k4 ?k5 ?kA ?kF ?kK ?k6 ?k7 ?k8 ?k9 ?kB ?_ ?c2 ?c3 ?c4 ?c5; (case kA => exact rfl); (case kF => exact rfl); (case kK => assumption); (case k1 => k_asm); (case k2 => k_asm); (case k3 => k_asm); (case k4 => k_asm); (case k5 => k_asm); (case k6 => k_is); (case k7 => k_is); (case k8 => ktr_room); (case k9 => first | exact BindsTo.of_eq rfl | exact binds_K (by k_in) rfl (by k_is) rfl rfl rfl); (case c5 => decide); (case kB => exact locs rfl); (case c2 => exact rfl); (case c3 => exact rfl); (case c4 => exact rfl); k_whole; intro g' L' h' tk0 FG' F' N' B' X' T' hg'; (try dsimp only); (try k_fold); (try (refine letA ?_; intro Ak)))
  clear hP st dj
  (repeat' (first | (k_unfold; (try dsimp only)) | (k_end; kc_close) | ((with_reducible show wpAny _ _ (execs (_ :: _) _) _ _ _); (with_reducible refine wpAny_execs_cons ?_); first | k_fold | (try dsimp only)) | (k_closed; first | ((with_reducible refine ite_pos ?_ ?_); (focus (k_dflt decide))) | ((with_reducible refine ite_neg ?_ ?_); (focus (k_dflt decide)))) | ((with_reducible show wpAny _ _ (call (.ref _) _) _ _ _); first | ((with_reducible show wpAny _ _ (call (.ref 674) _) _ _ _); (k_dflt (refine' Does.nil (law_one_does _ _ _ _ _ _ _ _ ?hl ?hc ?hp) ?uB ?uF ?uX ?uN ?uT ?uk ?uP ?ud ?uu ?_; walk_at "mine:n"; (case hl => assumption); (case hc => assumption); (case hp => omega); k_whole; intro rZ nxZ hZ tkZ FZ NZ hrZ; (try dsimp only at hrZ); ((obtain ⟨tpZ, itemsZ, nZ, hr1Z, hnxZ, hTZ⟩ := hrZ); subst hr1Z; subst hnxZ; rcases itemsZ with ⟨itemsZ⟩; (try dsimp only at hTZ); (generalize hqZ : mapRes _ (fwd _ _ _ _) = resZ at hTZ); (rcases resZ with pZ | _ | ⟨aZ, bZ⟩ | ⟨aZ, bZ⟩ <;> (first | (obtain ⟨tZ, uZ, vZ, hiZ⟩ := hTZ; subst hiZ) | (have hbZ := law_bound (by omega) hqZ; obtain ⟨tZ, uZ, hiZ⟩ := hTZ; subst hiZ) | (obtain ⟨tZ, uZ, hiZ⟩ := hTZ; subst hiZ) | (obtain ⟨tZ, hiZ⟩ := hTZ; subst hiZ)))); walk_at "mine:f")))) | ((with_reducible show wpAny _ _ (eval (.Name _ _) _) _ _ _); (k_here; k_dflt (refine' ld ?k1 ?k2 ?_; (case k1 => k_asm); (case k2 => first | with_reducible assumption | exact rfl | assumption); k_whole))) | ((with_reducible show wpAny _ _ (exec (.For _ _ _ _ _) _) _ _ _); (refine halt ?_)) | walk1 | (dsimp only; with_reducible show wpAny _ _ (call (.ref _) _) _ _ _) | (dsimp only; walk1) | (leave1; (try dsimp only))))
  refine unhalt ?_
  refine For_W (F₀ := by assumption) (by rfl) (by rfl) ?_
  (repeat' (first | (k_unfold; (try dsimp only)) | (k_end; kc_close) | ((with_reducible show wpAny _ _ (execs (_ :: _) _) _ _ _); (with_reducible refine wpAny_execs_cons ?_); first | k_fold | (try dsimp only)) | (k_closed; first | ((with_reducible refine ite_pos ?_ ?_); (focus (k_dflt decide))) | ((with_reducible refine ite_neg ?_ ?_); (focus (k_dflt decide)))) | ((with_reducible show wpAny _ _ (call (.ref _) _) _ _ _); first | ((with_reducible show wpAny _ _ (call (.ref 674) _) _ _ _); (k_dflt (refine' Does.nil (law_one_does _ _ _ _ _ _ _ _ ?hl ?hc ?hp) ?uB ?uF ?uX ?uN ?uT ?uk ?uP ?ud ?uu ?_; walk_at "mine:n"; (case hl => assumption); (case hc => assumption); (case hp => omega); k_whole; intro rZ nxZ hZ tkZ FZ NZ hrZ; (try dsimp only at hrZ); ((obtain ⟨tpZ, itemsZ, nZ, hr1Z, hnxZ, hTZ⟩ := hrZ); subst hr1Z; subst hnxZ; rcases itemsZ with ⟨itemsZ⟩; (try dsimp only at hTZ); (generalize hqZ : mapRes _ (fwd _ _ _ _) = resZ at hTZ); (rcases resZ with pZ | _ | ⟨aZ, bZ⟩ | ⟨aZ, bZ⟩ <;> (first | (obtain ⟨tZ, uZ, vZ, hiZ⟩ := hTZ; subst hiZ) | (have hbZ := law_bound (by omega) hqZ; obtain ⟨tZ, uZ, hiZ⟩ := hTZ; subst hiZ) | (obtain ⟨tZ, uZ, hiZ⟩ := hTZ; subst hiZ) | (obtain ⟨tZ, hiZ⟩ := hTZ; subst hiZ)))); walk_at "mine:f")))) | ((with_reducible show wpAny _ _ (eval (.Name _ _) _) _ _ _); (k_here; k_dflt (refine' ld ?k1 ?k2 ?_; (case k1 => k_asm); (case k2 => first | with_reducible assumption | exact rfl | assumption); k_whole))) | ((with_reducible show wpAny _ _ (exec (.For _ _ _ _ _) _) _ _ _); (refine halt ?_)) | walk1 | (dsimp only; with_reducible show wpAny _ _ (call (.ref _) _) _ _ _) | (dsimp only; walk1) | (leave1; (try dsimp only))))
  refine SrcF.range (by rfl) (by assumption) (by assumption) (by assumption) (small_count hct) (rangeSize_nat _ _) ?_
  intro g2
  refine' ⟨fun j m₁ news₁ => m₁ (Str.ofString "row") = some (.str row tr) ∧ m₁ (Str.ofString "is_expression") = some (.bool i) ∧
    ∃ (tp : Addr) (a dd : Int) (t1 t2 t3 : Tok) (n : Nat), news₁ = [(tp, foundAt a t1 t2 n)] ∧ m₁ (Str.ofString "found") = some (.ref tp) ∧ m₁ (Str.ofString "depth") = some (.int dd t3) ∧ 0 ≤ a ∧ a ≤ row.length ∧ (j ≤ k → fwdN (codesOf row) i (k - j) (a + 1) dd = fwdN (codesOf row) i k (at_ + 1) d),
    ⟨by rfl, by rfl, _, at_, d, _, _, _, _, rfl, by rfl, by rfl, hp.1, hp.2, fun _ => rfl⟩, ?_, ?_⟩
  · intro j v m₁ nw h tk I oI hj hv9 hJ9 off F₁ N₁ hcI
    (try k_fold)
    (refine cps ?_; intro G9 out9)
    obtain ⟨tv, rfl⟩ := hv9
    obtain ⟨a1, a2, tp, a, dd, t1, t2, t3, n, rfl, a3, a4, b1, b2, b3⟩ := hJ9
    (refine out9 ?_; clear out9 G9)
    have b4 := b3 (by omega)
    obtain ⟨q, hq⟩ : ∃ q, k - j = q + 1 := ⟨k - j - 1, by omega⟩
    rw [hq] at b4
    (repeat' (first | (k_unfold; (try dsimp only)) | (k_end; kc_close) | ((with_reducible show wpAny _ _ (execs (_ :: _) _) _ _ _); (with_reducible refine wpAny_execs_cons ?_); first | k_fold | (try dsimp only)) | (k_closed; first | ((with_reducible refine ite_pos ?_ ?_); (focus (k_dflt decide))) | ((with_reducible refine ite_neg ?_ ?_); (focus (k_dflt decide)))) | ((with_reducible show wpAny _ _ (call (.ref _) _) _ _ _); first | ((with_reducible show wpAny _ _ (call (.ref 674) _) _ _ _); (k_dflt (refine' Does.nil (law_one_does _ _ _ _ _ _ _ _ ?hl ?hc ?hp) ?uB ?uF ?uX ?uN ?uT ?uk ?uP ?ud ?uu ?_; walk_at "mine:n"; (case hl => assumption); (case hc => assumption); (case hp => omega); k_whole; intro rZ nxZ hZ tkZ FZ NZ hrZ; (try dsimp only at hrZ); ((obtain ⟨tpZ, itemsZ, nZ, hr1Z, hnxZ, hTZ⟩ := hrZ); subst hr1Z; subst hnxZ; rcases itemsZ with ⟨itemsZ⟩; (try dsimp only at hTZ); (generalize hqZ : mapRes _ (fwd _ _ _ _) = resZ at hTZ); (rcases resZ with pZ | _ | ⟨aZ, bZ⟩ | ⟨aZ, bZ⟩ <;> (first | (obtain ⟨tZ, uZ, vZ, hiZ⟩ := hTZ; subst hiZ) | (have hbZ := law_bound (by omega) hqZ; obtain ⟨tZ, uZ, hiZ⟩ := hTZ; subst hiZ) | (obtain ⟨tZ, uZ, hiZ⟩ := hTZ; subst hiZ) | (obtain ⟨tZ, hiZ⟩ := hTZ; subst hiZ)))); walk_at "mine:f")))) | ((with_reducible show wpAny _ _ (eval (.Name _ _) _) _ _ _); (k_here; k_dflt (refine' ld ?k1 ?k2 ?_; (case k1 => k_asm); (case k2 => first | with_reducible assumption | exact rfl | assumption); k_whole))) | ((with_reducible show wpAny _ _ (exec (.For _ _ _ _ _) _) _ _ _); (refine halt ?_)) | walk1 | (dsimp only; with_reducible show wpAny _ _ (call (.ref _) _) _ _ _) | (dsimp only; walk1) | (leave1; (try dsimp only))))
    · rename mapRes _ _ = Res.at_ _ => hq1
      rename _ ∧ _ => hb1
      rename Fr g' _ _ _ => F5
      rename News g' _ _ _ => N5
      refine ⟨_, _, _, [(_, foundAt _ _ _ _)], rfl, F5, News.sub N5 (List.forall_mem_cons.mpr ⟨.tail _ (.head _), List.forall_mem_cons.mpr ⟨.head _, List.forall_mem_nil _⟩⟩), fun p hp => ?_, by first | exact a1 | rfl, by first | exact a2 | rfl, _, _, _, _, _, _, _, rfl, by rfl, by rfl, hb1.1, hb1.2, fun _ => ?_⟩
      · rcases List.mem_cons.mp hp with rfl | hp
        · intro z
          have e1 := (N5 _ (.head _)).1
          have e2 := (N5 _ (.tail _ (.head _))).1
          dsimp only at z e1 e2
          rw [z, e2] at e1
          exact hcI (by rw [Option.some.inj e1])
        · cases hp
      · rw [show k - (j + 1) = q by omega]
        rw [← b3 (by omega), hq]
        exact scan_turn hq1 rfl
    all_goals (dsimp only [ForPost]; (repeat' (first | (k_unfold; (try dsimp only)) | (k_end; kc_close) | ((with_reducible show wpAny _ _ (execs (_ :: _) _) _ _ _); (with_reducible refine wpAny_execs_cons ?_); first | k_fold | (try dsimp only)) | (k_closed; first | ((with_reducible refine ite_pos ?_ ?_); (focus (k_dflt decide))) | ((with_reducible refine ite_neg ?_ ?_); (focus (k_dflt decide)))) | ((with_reducible show wpAny _ _ (call (.ref _) _) _ _ _); first | ((with_reducible show wpAny _ _ (call (.ref 674) _) _ _ _); (k_dflt (refine' Does.nil (law_one_does _ _ _ _ _ _ _ _ ?hl ?hc ?hp) ?uB ?uF ?uX ?uN ?uT ?uk ?uP ?ud ?uu ?_; walk_at "mine:n"; (case hl => assumption); (case hc => assumption); (case hp => omega); k_whole; intro rZ nxZ hZ tkZ FZ NZ hrZ; (try dsimp only at hrZ); ((obtain ⟨tpZ, itemsZ, nZ, hr1Z, hnxZ, hTZ⟩ := hrZ); subst hr1Z; subst hnxZ; rcases itemsZ with ⟨itemsZ⟩; (try dsimp only at hTZ); (generalize hqZ : mapRes _ (fwd _ _ _ _) = resZ at hTZ); (rcases resZ with pZ | _ | ⟨aZ, bZ⟩ | ⟨aZ, bZ⟩ <;> (first | (obtain ⟨tZ, uZ, vZ, hiZ⟩ := hTZ; subst hiZ) | (have hbZ := law_bound (by omega) hqZ; obtain ⟨tZ, uZ, hiZ⟩ := hTZ; subst hiZ) | (obtain ⟨tZ, uZ, hiZ⟩ := hTZ; subst hiZ) | (obtain ⟨tZ, hiZ⟩ := hTZ; subst hiZ)))); walk_at "mine:f")))) | ((with_reducible show wpAny _ _ (eval (.Name _ _) _) _ _ _); (k_here; k_dflt (refine' ld ?k1 ?k2 ?_; (case k1 => k_asm); (case k2 => first | with_reducible assumption | exact rfl | assumption); k_whole))) | ((with_reducible show wpAny _ _ (exec (.For _ _ _ _ _) _) _ _ _); (refine halt ?_)) | walk1 | (dsimp only; with_reducible show wpAny _ _ (call (.ref _) _) _ _ _) | (dsimp only; walk1) | (leave1; (try dsimp only)))); (rename mapRes _ _ = _ => hq1))
    all_goals (refine' hret _ [(_, { cls := .type "tuple", data := .seq ⟨_⟩ _ })] _ _ ?f ?n (Kept.of_frame hg' (by assumption)) ⟨_, _, _, rfl, rfl, ?_⟩; (case f => assumption); (case n => exact News.sub (by assumption) (by (first | (refine sub1 ?_; k_mem) | (refine sub2 ?_ ?_; k_mem; k_mem) | (refine sub3 ?_ ?_ ?_; k_mem; k_mem; k_mem) | ((repeat (refine' List.forall_mem_cons.mpr ⟨?_, ?_⟩; focus k_mem)); exact List.forall_mem_nil _)))); rw [← b4]; exact told_stop hq1 (fun _ q => by cases q) (by first | exact toldNone | exact toldSoon rfl rfl | exact toldUnbal rfl rfl))
  · intro h' tk m' news' F₁ N₁ hI9
    (try k_fold)
    (refine cps ?_; intro G9 out9)
    obtain ⟨a1, a2, tp, a, dd, t1, t2, t3, n, e1, a3, a4, b1, b2, b3⟩ := hI9
    (refine out9 ?_; clear out9 G9)
    subst e1
    have b4 := b3 (by omega)
    have e9 : ((k : Int) - 0).toNat = k := by omega
    rw [e9, Nat.sub_self] at b4
    (repeat' (first | (k_unfold; (try dsimp only)) | (k_end; kc_close) | ((with_reducible show wpAny _ _ (execs (_ :: _) _) _ _ _); (with_reducible refine wpAny_execs_cons ?_); first | k_fold | (try dsimp only)) | (k_closed; first | ((with_reducible refine ite_pos ?_ ?_); (focus (k_dflt decide))) | ((with_reducible refine ite_neg ?_ ?_); (focus (k_dflt decide)))) | ((with_reducible show wpAny _ _ (call (.ref _) _) _ _ _); first | ((with_reducible show wpAny _ _ (call (.ref 674) _) _ _ _); (k_dflt (refine' Does.nil (law_one_does _ _ _ _ _ _ _ _ ?hl ?hc ?hp) ?uB ?uF ?uX ?uN ?uT ?uk ?uP ?ud ?uu ?_; walk_at "mine:n"; (case hl => assumption); (case hc => assumption); (case hp => omega); k_whole; intro rZ nxZ hZ tkZ FZ NZ hrZ; (try dsimp only at hrZ); ((obtain ⟨tpZ, itemsZ, nZ, hr1Z, hnxZ, hTZ⟩ := hrZ); subst hr1Z; subst hnxZ; rcases itemsZ with ⟨itemsZ⟩; (try dsimp only at hTZ); (generalize hqZ : mapRes _ (fwd _ _ _ _) = resZ at hTZ); (rcases resZ with pZ | _ | ⟨aZ, bZ⟩ | ⟨aZ, bZ⟩ <;> (first | (obtain ⟨tZ, uZ, vZ, hiZ⟩ := hTZ; subst hiZ) | (have hbZ := law_bound (by omega) hqZ; obtain ⟨tZ, uZ, hiZ⟩ := hTZ; subst hiZ) | (obtain ⟨tZ, uZ, hiZ⟩ := hTZ; subst hiZ) | (obtain ⟨tZ, hiZ⟩ := hTZ; subst hiZ)))); walk_at "mine:f")))) | ((with_reducible show wpAny _ _ (eval (.Name _ _) _) _ _ _); (k_here; k_dflt (refine' ld ?k1 ?k2 ?_; (case k1 => k_asm); (case k2 => first | with_reducible assumption | exact rfl | assumption); k_whole))) | ((with_reducible show wpAny _ _ (exec (.For _ _ _ _ _) _) _ _ _); (refine halt ?_)) | walk1 | (dsimp only; with_reducible show wpAny _ _ (call (.ref _) _) _ _ _) | (dsimp only; walk1) | (leave1; (try dsimp only))))
    refine hret _ _ _ _ (by assumption) (by assumption) (Kept.of_frame hg' (by assumption)) ⟨_, _, _, rfl, rfl, ?_⟩
    rw [← b4]
    exact told_zero (by omega)
end
-- D4a
noncomputable section
set_option maxRecDepth 100000

open Builtin.Slice in
theorem applied_one {prog : Program} {w : World} {A : Around} {E : Value → Shared → Prop} {s : Shared} {sl : Addr} {n : Nat} {u : Tok} {Q : Int × Int × Nat → Shared → Prop} (hs : s.heap.IsSliceOf sl .none (.int 1 u) .none) (hn : 1 ≤ n) (h : Q (0, 1, 1) s) :
    wpAny (model prog w) A (sliceApplied (.ref sl) (pure (n : Int))) Q E s := by
  obtain ⟨os, hos, hcs, hds⟩ := id hs
  unfold sliceApplied sliceFields
  refine wpAny_bind (wpAny_bind (wpAny_field hos hds (x := .none) rfl (wpAny_bind (wpAny_field hos hds (x := .int 1 u) rfl (wpAny_bind (wpAny_field hos hds (x := .none) rfl (wpAny_pure ?_)))))))
  refine wpAny_bind (slicePart_none ?_)
  show wpAny _ _ (if ((1 : Int) == 0) = true then _ else _) _ _ s
  rw [if_neg (by decide)]
  refine wpAny_bind (slicePart_none (wpAny_bind (slicePart_int (wpAny_bind (wpAny_pure ?_)))))
  have e1 : sliceAdjust none (some (1 : Int)) 1 (n : Int) = (0, 1) := by
    unfold sliceAdjust
    have h1 : ¬ ((1 : Int) < 0) := by omega
    simp only [h1, if_false]
    congr 1
    omega
  have e2 : slicePlaces 0 1 1 = 1 := by decide
  show wpAny _ _ (match sliceAdjust none (some (1 : Int)) 1 (n : Int) with | (lo, hi) => pure (lo, (1 : Int), slicePlaces lo hi 1)) _ _ s
  rw [e1]
  show wpAny _ _ (pure ((0 : Int), (1 : Int), slicePlaces 0 1 1)) _ _ s
  rw [e2]
  exact wpAny_pure h
theorem getItem_one {prog : Program} {w : World} {A : Around} {E : Value → Shared → Prop} {s : Shared} {t sl : Addr} {x y : Value} {l : List Value} {u : Tok} {Q : Value → Shared → Prop} (ht : IsTup s.heap t ⟨x :: y :: l⟩) (hs : s.heap.IsSliceOf sl .none (.int 1 u) .none)
    (h : Q (.ref s.heap.objs.size) { s with heap := s.heap.push { cls := .type "tuple", data := .seq #[x] } }) : wpAny (model prog w) A (getItem (.ref t) (.ref sl)) Q E s := by
  obtain ⟨os, hos, hcs, hds⟩ := id hs
  have hTs : s.TypeIs (.ref sl) "slice" := ⟨os, hos, hcs⟩
  unfold getItem
  try with_reducible refine wpAny_holding ?_
  first | refine wpAny_bind (wpAny_pure ?_) | skip
  refine wpAny_bind (wpAny_sequenceKey ht.typeIs (by decide) ?_)
  refine wpAny_bind (wpAny_callSpecial?_slot (name := Str.ofString "__getitem__") ht.typeIs slot_tuple_getitem
    (wpAny_call_entry slot_tuple_getitem ht.typeIs entry_tuple_getitem ?_ (args_tuple_getitem _ _)))
  show wpAny _ _ (Builtin.Tuple.tupleItemsOf (.ref t) >>= _) _ _ s
  refine wpAny_bind (tupleItemsOf_ ht ?_)
  refine wpAny_bind (wpAny_typeOf hTs ?_)
  rw [if_pos (by decide)]
  refine wpAny_bind (applied_one (n := (⟨x :: y :: l⟩ : Array Value).size) hs (by simp) ?_)
  show wpAny _ _ (if ((0 : Int) == 0 && (1 : Int) == 1 && 1 == (⟨x :: y :: l⟩ : Array Value).size) = true then _ else _) _ _ s
  rw [if_neg (by simp)]
  have hdrop : sizeOk (.seq #[x]) := by
    show (1 : Nat) ≤ sizeLine
    decide
  have e : ((List.range 1).filterMap fun (k : Nat) => (⟨x :: y :: l⟩ : Array Value)[((0 : Int) + (k : Int) * 1).toNat]?).toArray = #[x] := rfl
  first
    | exact wpAny_bind (m := Builtin.Tuple.tupleExact _) (wpAny_newObj_type (wpAny_pure ⟨_, rfl, wpAny_pure h⟩) hdrop)
    | exact wpAny_bind (m := Builtin.Tuple.tupleExact _) (wpAny_newObj_type (wpAny_bind (wpAny_pure (wpAny_pure ⟨_, rfl, wpAny_pure h⟩))) hdrop)
    | exact wpAny_bind (wpAny_bind (m := Builtin.Tuple.tupleExact _) (wpAny_newObj_type (wpAny_pure (wpAny_pure ⟨_, rfl, wpAny_pure h⟩)) hdrop))
    | exact wpAny_bind (wpAny_bind (m := Builtin.Tuple.tupleExact _) (wpAny_newObj_type (wpAny_pure ⟨_, rfl, wpAny_pure h⟩) hdrop))
theorem slice_one {prog : Program} {w : World} {A : Around} {E : Value → Shared → Prop} {s : Shared} {h₀ : Heap} {L : Addr} {m : Str → Option Value} {news : Led} {value slice : PySem.Expr} {t : Addr} {x y : Value} {l : List Value} {u : Tok} {Q : Value → Shared → Prop}
    (F : Fr h₀ L s.heap m) (N : News h₀ L s.heap news) (ht : IsTup s.heap t ⟨x :: y :: l⟩)
    (h : ∀ h', Fr h₀ L h' m → News h₀ L h' ((s.heap.objs.size + 1, { cls := .type "tuple", data := .seq #[x] }) :: news) → Q (.ref (s.heap.objs.size + 1)) { s with heap := h' })
    (hs : subscripted slice false (.ref t) (.ref s.heap.objs.size) = operate [.ref s.heap.objs.size, .ref t] (getItem (.ref t) (.ref s.heap.objs.size)) := by with_unfolding_all rfl)
    (hg : ∀ r, letTemporaryGo value (.ref t) r = pure () := by intro _; with_unfolding_all rfl) :
    wpAny (model prog w) A (subscriptTail value slice (.ref t) (.ref s.heap.objs.size)) Q E { s with heap := s.heap.push { cls := .type "slice", data := .fields #[.none, .int 1 u, .none] } } := by
  have ht' : IsTup (s.heap.push { cls := .type "slice", data := .fields #[.none, .int 1 u, .none] }) t ⟨x :: y :: l⟩ := ht.keeps fun _ _ e => Heap.get?_push_of_some _ e
  refine subscriptTail_ops (s := { s with heap := s.heap.push { cls := .type "slice", data := .fields #[.none, .int 1 u, .none] } }) ht'.typeIs slot_tuple_getitem.lookup
    (getItem_one ht' (Heap.IsSliceOf.new ..) ?_) hs hg
  have N1 := News.push (F.push { cls := .type "slice", data := .fields #[.none, .int 1 u, .none] }) (N.grown fun _ _ e => Heap.get?_push_of_some _ e) { cls := .type "tuple", data := .seq #[x] }
  rw [Heap.size_push] at N1
  show Q (.ref (s.heap.push _).objs.size) _
  rw [Heap.size_push]
  exact h _ ((F.push _).push _) N1
end
-- D5
noncomputable section
set_option maxRecDepth 100000

theorem bwdN_eq (codes : List Int) (i : Bool) : ∀ (k : Nat) (a d : Int), bwdN codes i k a d = unRes codes.length (fwdN (mir codes) i k (codes.length + 2 - a) d)
  | 0, a, d => by
    show Res.at_ a = Res.at_ (codes.length + 2 - (codes.length + 2 - a))
    congr 1
    omega
  | k + 1, a, d => by
    unfold bwdN fwdN bwd
    cases q : fwd (mir codes) (codes.length + 2 - a) d i with
    | at_ p =>
      show bwdN codes i k (codes.length + 2 - p) 0 = unRes codes.length (fwdN (mir codes) i k p 0)
      rw [bwdN_eq codes i k, show (codes.length : Int) + 2 - (codes.length + 2 - p) = p by omega]
    | none => rfl
    | soon _ _ => rfl
    | unbal _ _ => rfl
theorem unRes_map (n : Int) (r : Res) : mapRes (fun x => 1 + n - x) (mapRes (· - 1) r) = unRes n r := by
  cases r <;> simp only [mapRes, unRes] <;> congr 1 <;> omega
theorem map_back (r : Res) : mapRes (fun x => 1 + x) (mapRes (· - 1) r) = r := by
  cases r <;> simp only [mapRes] <;> congr 1 <;> omega
/-- two tellings of one answer are the same items, up to tokens -/
theorem told_same {r : Res} {l l' : List Value} (h : ToldIs r l) (h' : ToldIs r l') : ∃ x, (l.length = l'.length) ∧ x = l := ⟨l, by
  cases r with
  | at_ p => obtain ⟨_, _, rfl⟩ := h; obtain ⟨_, _, rfl⟩ := h'; rfl
  | none => obtain ⟨_, rfl⟩ := h; obtain ⟨_, rfl⟩ := h'; rfl
  | soon _ _ => obtain ⟨_, _, _, rfl⟩ := h; obtain ⟨_, _, _, rfl⟩ := h'; rfl
  | unbal _ _ => obtain ⟨_, _, _, rfl⟩ := h; obtain ⟨_, _, _, rfl⟩ := h'; rfl, rfl⟩
end
-- D4b
noncomputable section
set_option maxRecDepth 100000

theorem getItem_onlyone {prog : Program} {w : World} {A : Around} {E : Value → Shared → Prop} {s : Shared} {t sl : Addr} {x : Value} {u : Tok} {Q : Value → Shared → Prop} (ht : IsTup s.heap t ⟨[x]⟩) (hs : s.heap.IsSliceOf sl .none (.int 1 u) .none)
    (h : Q (.ref t) s) : wpAny (model prog w) A (getItem (.ref t) (.ref sl)) Q E s := by
  obtain ⟨os, hos, hcs, hds⟩ := id hs
  have hTs : s.TypeIs (.ref sl) "slice" := ⟨os, hos, hcs⟩
  unfold getItem
  try with_reducible refine wpAny_holding ?_
  first | refine wpAny_bind (wpAny_pure ?_) | skip
  refine wpAny_bind (wpAny_sequenceKey ht.typeIs (by decide) ?_)
  refine wpAny_bind (wpAny_callSpecial?_slot (name := Str.ofString "__getitem__") ht.typeIs slot_tuple_getitem
    (wpAny_call_entry slot_tuple_getitem ht.typeIs entry_tuple_getitem ?_ (args_tuple_getitem _ _)))
  show wpAny _ _ (Builtin.Tuple.tupleItemsOf (.ref t) >>= _) _ _ s
  refine wpAny_bind (tupleItemsOf_ ht ?_)
  refine wpAny_bind (wpAny_typeOf hTs ?_)
  rw [if_pos (by decide)]
  refine wpAny_bind (applied_one (n := (⟨[x]⟩ : Array Value).size) hs (by simp) ?_)
  show wpAny _ _ (if ((0 : Int) == 0 && (1 : Int) == 1 && 1 == (⟨[x]⟩ : Array Value).size) = true then _ else _) _ _ s
  rw [if_pos (show ((0 : Int) == 0 && (1 : Int) == 1 && 1 == (⟨[x]⟩ : Array Value).size) = true from rfl)]
  show wpAny _ _ (Builtin.Tuple.tupleIsExact (.ref t) >>= _) _ _ s
  refine wpAny_bind (wpAny_bind (wpAny_typeOf ht.typeIs (wpAny_pure ?_)))
  rw [if_pos (by decide)]
  refine wpAny_bind (wpAny_rule ?_)
  exact wpAny_pure ⟨_, rfl, wpAny_pure h⟩
theorem slice_onlyone {prog : Program} {w : World} {A : Around} {E : Value → Shared → Prop} {s : Shared} {h₀ : Heap} {L : Addr} {m : Str → Option Value} {news : Led} {value slice : PySem.Expr} {t : Addr} {x : Value} {u : Tok} {Q : Value → Shared → Prop}
    (F : Fr h₀ L s.heap m) (N : News h₀ L s.heap news) (ht : IsTup s.heap t ⟨[x]⟩)
    (h : ∀ h', Fr h₀ L h' m → News h₀ L h' news → Q (.ref t) { s with heap := h' })
    (hs : subscripted slice false (.ref t) (.ref s.heap.objs.size) = operate [.ref s.heap.objs.size, .ref t] (getItem (.ref t) (.ref s.heap.objs.size)) := by with_unfolding_all rfl)
    (hg : ∀ r, letTemporaryGo value (.ref t) r = pure () := by intro _; with_unfolding_all rfl) :
    wpAny (model prog w) A (subscriptTail value slice (.ref t) (.ref s.heap.objs.size)) Q E { s with heap := s.heap.push { cls := .type "slice", data := .fields #[.none, .int 1 u, .none] } } := by
  have ht' : IsTup (s.heap.push { cls := .type "slice", data := .fields #[.none, .int 1 u, .none] }) t ⟨[x]⟩ := ht.keeps fun _ _ e => Heap.get?_push_of_some _ e
  exact subscriptTail_ops (s := { s with heap := s.heap.push { cls := .type "slice", data := .fields #[.none, .int 1 u, .none] } }) ht'.typeIs slot_tuple_getitem.lookup
    (getItem_onlyone ht' (Heap.IsSliceOf.new ..) (h _ (F.push _) (N.grown fun _ _ e => Heap.get?_push_of_some _ e))) hs hg
end
-- D4
noncomputable section
set_option maxRecDepth 100000

theorem due_end {codes : List Int} {at_ count d : Int} {i : Bool} {r : Res} {l : List Value} (h : 0 ≤ count) (hq : mapRes (· - 1) (fwdN codes i count.toNat (at_ - 1 + 1) d) = r) (ht : ToldIs (mapRes (fun x => 1 + x) r) l) : ToldIs (scanR codes at_ count d i) l := by
  subst hq
  rw [map_back, show at_ - 1 + 1 = at_ by omega] at ht
  unfold scanR
  rw [if_pos h]
  exact ht
set_option maxHeartbeats 16000000 in
theorem law_due_fwd (w : World) (row : Str) (at_ count d : Int) (tr ta tk td : Tok) (i : Bool) (hl : row.length ≤ 90) (hc : Codes (codesOf row)) (hp : 1 ≤ at_ ∧ at_ ≤ 1 + row.length) (hct : 0 ≤ count ∧ count ≤ 3) :
    Does w 4 32 Any 686 [.str row tr, .int at_ ta, .int count tk, .int d td, .bool i] [] (fun r nx => LedIs (scanR (codesOf row) at_ count d i) r nx) := by
  unfold Does
  intro mean mg mb dp un gd cn cs a ccd cl outer A₀ base h₀ L m s g₀ Q E B F X N T hk hP st dj hd hu hret
  refine wpAny_call ?_
  k_dflt (refine' enterX (binds := [(Str.ofString "row", .str row tr), (Str.ofString "at", .int at_ ta), (Str.ofString "count", .int count tk), (Str.ofString "depth", .int d td), (Str.ofString "is_expression", .bool i)]) ?k1 ?k2 ?k3 ?k4 ?k5 ?kA ?kF ?kK ?k6 ?k7 ?k8 ?k9 ?kB ?kD ?_ ?c2 ?c3 ?c4; (case kA => exact rfl); (case kF => exact rfl); (case kK => assumption); (case k1 => k_asm); (case k2 => k_asm); (case k3 => k_asm); (case k4 => k_asm); (case k5 => k_asm); (case k6 => k_is); (case k7 => k_is); (case k8 => ktr_room); (case k9 => first | exact BindsTo.of_eq rfl | exact binds_K (by k_in) rfl (by k_is) rfl rfl rfl); (case kB => exact rfl); (case kD => decide +kernel); (case c2 => exact rfl); (case c3 => exact rfl); (case c4 => exact rfl); k_whole; intro g' L' h' tk' cells' FG' F' N' Y' B' X' T' hg' l1; (try k_lt l1); k_cells Y'; (try simp only [List.cons_append, List.nil_append] at N'); (try dsimp only); (try k_fold))
  clear hP st dj
  (repeat' (first | (k_unfold; (try dsimp only)) | (k_end; kc_close) | ((with_reducible show wpAny _ _ (execs (_ :: _) _) _ _ _); (with_reducible refine wpAny_execs_cons ?_); first | k_fold | (try dsimp only)) | (k_closed; first | ((with_reducible refine ite_pos ?_ ?_); (focus (k_dflt decide))) | ((with_reducible refine ite_neg ?_ ?_); (focus (k_dflt decide)))) | ((with_reducible show wpAny _ _ (call (.ref _) _) _ _ _); first | ((with_reducible show wpAny _ _ (call (.ref 681) _) _ _ _); (k_dflt (refine' Does.nil (law_scan_does _ _ _ _ _ _ _ _ _ _ ?hl ?hc ?hp ?hk) ?uB ?uF ?uX ?uN ?uT ?uk ?uP ?ud ?uu ?_; walk_at "mine:n"; (case hl => assumption); (case hc => assumption); (case hp => omega); (case hk => omega); k_whole; intro rZ nxZ hZ tkZ FZ NZ hrZ; (try dsimp only at hrZ); ((obtain ⟨tpZ, itemsZ, nZ, hr1Z, hnxZ, hTZ⟩ := hrZ); subst hr1Z; subst hnxZ; rcases itemsZ with ⟨itemsZ⟩; (try dsimp only at hTZ); (generalize hqZ : mapRes _ (fwdN _ _ _ _ _) = resZ at hTZ); (rcases resZ with pZ | _ | ⟨aZ, bZ⟩ | ⟨aZ, bZ⟩ <;> (first | (obtain ⟨tZ, uZ, vZ, hiZ⟩ := hTZ; subst hiZ) | (obtain ⟨tZ, uZ, hiZ⟩ := hTZ; subst hiZ) | (obtain ⟨tZ, hiZ⟩ := hTZ; subst hiZ)))); all_goals (try simp only [List.cons_append, List.nil_append] at NZ); walk_at "mine:f")))) | ((with_reducible show SrcG _ _ _ _ _ _ _ _ _ _); (k_here; k_dflt (refine SrcG.tup (by rfl) (by k_asm) (by k_asm) (by k_mem) (by exact small_tup rfl) ?_; intro gZ; lcg_lit))) | ((with_reducible show wpAny _ _ (eval (.ListComp _ _ _ _) _) _ _ _); (k_here; k_dflt (refine ListComp_W (F₀ := by k_asm) (by with_unfolding_all rfl) (by decide) (by rfl) (by decide) (by rfl) ?_))) | ((with_reducible show LCg.CompEnd _ _ _ _ _ _ _ _ _ _ _ _ _ _); (first | (refine LCg.CompEnd.intro (by assumption) (by assumption) _ (fun _ hp => hp) (by assumption) (by lcg_src) ?_) | lcg_end)) | ((with_reducible show LCg.CompRest _ _ _ _ _ _ _ _ _ _ _ _ _ _ _ _ _ _ _); (with_unfolding_all first | (refine LCg.CompRest.succ ?_; intro vZ IZ oIZ CZ oCZ DZ mZ hZ tkZ EZ hvZ hCZ hxZ FZ NZ offZ neZ; lcg_open hvZ) | refine LCg.CompRest.zero ?_)) | ((with_reducible show wpAny _ _ (subscriptTail _ _ (.ref _) (.ref _)) _ _ _); (k_here; k_dflt (refine' slice_tuple_from (a := 1) ?qF ?qN ?qt ?qa ?qb ?_ (hsz := ?qc); (case qF => k_asm); (case qN => k_asm); (case qt => exact News.isTup (by k_asm) (by k_mem)); (case qa => decide); (case qb => exact Nat.succ_le_succ (Nat.zero_le _)); (case qc => exact small_tup rfl)); intro hZ FZ NZ; (try dsimp only [List.drop] at NZ); (try k_sweep))) | ((with_reducible show wpAny _ _ (subscriptTail _ _ (.ref _) (.ref _)) _ _ _); (k_here; k_dflt (first | (refine' slice_one ?qF ?qN ?qt ?_; (case qF => k_asm); (case qN => k_asm); (case qt => exact News.isTup (by k_asm) (by k_mem))) | (refine' slice_onlyone ?qF ?qN ?qt ?_; (case qF => k_asm); (case qN => k_asm); (case qt => exact News.isTup (by k_asm) (by k_mem)))); intro hZ FZ NZ; (try k_sweep))) | ((with_reducible show wpAny _ _ (call (.builtin "len") _) _ _ _); (k_here; (with_reducible show wpAny _ _ (call (Value.builtin "len") [Value.str _ _]) _ _ _); k_dflt (refine' len_row ?qf ?_; (case qf => assumption); k_whole))) | walk1 | (dsimp only; with_reducible show wpAny _ _ (call (.ref _) _) _ _ _) | (dsimp only; walk1) | (leave1; (try dsimp only))))
  all_goals (refine' hret _ [(_, { cls := .type "tuple", data := .seq _ _ })] _ _ ?f ?n (Kept.of_frame hg' (by assumption)) ⟨_, _, _, rfl, rfl, due_end hct.1 (by assumption) ?_⟩; (case f => assumption); (case n => exact News.sub (by assumption) (by (first | (refine sub1 ?_; k_mem) | (refine sub2 ?_ ?_; k_mem; k_mem) | (refine sub3 ?_ ?_ ?_; k_mem; k_mem; k_mem) | ((repeat (refine' List.forall_mem_cons.mpr ⟨?_, ?_⟩; focus k_mem)); exact List.forall_mem_nil _)))))
  · exact toldAt rfl
  · exact toldNone
  · exact toldSoon rfl rfl
  · exact toldUnbal rfl rfl
end
-- E2
noncomputable section
set_option maxRecDepth 100000

section
variable {prog : Program} {w : World} {A : Around} {E : Value → Shared → Prop} {s : Shared}
/-- one-character texts, from their codes -/
noncomputable def sgs (l : List Nat) : List Str := l.map fun n => ⟨#[n]⟩
theorem sgs_signs (l : List Nat) : sgs l = signs ⟨l.toArray⟩ := by
  unfold sgs signs
  rw [List.toList_toArray]
theorem join_sgs {D : Addr} {items : Array Value} {l : List Nat} {x : Str} {t : Tok} {Q : Value → Shared → Prop} (hl : s.heap.IsList D items) (hi : StrsAre items.toList (sgs l)) (hx : x = ⟨#[]⟩) (hw : l.length ≤ 100) {R : Str} (hr : (⟨l.toArray⟩ : Str) = R)
    (h : ∀ t' k, Q (.str R t') { s with toks := k }) : wpAny (model prog w) A (call (.builtin "str.join") [.str x t, .ref D]) Q E s := by
  subst hx
  subst hr
  refine join_listW hl hi (by decide) ?_ fun t' k => ?_
  · have h1 : ∀ l : List Nat, ((sgs l).map (·.length)).sum = l.length := by
      intro l
      induction l with
      | nil => rfl
      | cons a l ih =>
        show ((⟨#[a]⟩ : Str).length + ((sgs l).map (·.length)).sum) = l.length + 1
        rw [ih, show (⟨#[a]⟩ : Str).length = 1 from rfl]
        omega
    have h2 : (sgs l).length = l.length := by unfold sgs; rw [List.length_map]
    rw [h1, h2]
    omega
  · have e : Txt.join (⟨#[]⟩ : Str) (sgs l) = ⟨l.toArray⟩ := by
      rw [sgs_signs]
      exact (beq_iff_eq.mp (join_closes rfl)).trans (join_nil_signs _)
    rw [e]
    exact h t' k
theorem sgs_snoc {ys : List Value} {l : List Nat} {i : Nat} {c : Nat} {y : Value} {t : Tok} {f : Nat → Nat} (h : StrsAre ys (sgs ((l.take i).map f))) (hc : l[i]? = some c) (hy : y = .str ⟨#[f c]⟩ t) : StrsAre (ys ++ [y]) (sgs ((l.take (i + 1)).map f)) := by
  rw [List.take_add_one, hc]
  subst hy
  have e : sgs (((l.take i) ++ (some c).toList).map f) = sgs ((l.take i).map f) ++ [⟨#[f c]⟩] := by
    unfold sgs
    simp only [List.map_append, Option.toList]
    rfl
  rw [e]
  exact StrsAre.append' h (.cons _ t .nil)
end
noncomputable def flipN (c : Nat) : Nat := if c = 40 then 41 else if c = 41 then 40 else c
theorem flipN_eq (c : Nat) : (flipN c : Int) = flipc c := by
  unfold flipN flipc
  by_cases h1 : c = 40
  · subst h1; rfl
  · by_cases h2 : c = 41
    · subst h2; rfl
    · rw [if_neg h1, if_neg h2, if_neg (by omega), if_neg (by omega)]
theorem rev_list (row : Str) (u : Tok) : (Txt.sliceBy row none none (-1, u)).cps.toList = row.cps.toList.reverse := by
  rw [step_rev_list]
  refine List.ext_getElem ?_ fun i h1 h2 => ?_
  · rw [List.length_map, List.length_range, List.length_reverse]
    exact Array.length_toList
  · have hn : row.length = row.cps.size := rfl
    have h3 : i < row.cps.size := by simpa using h2
    rw [List.getElem_map, List.getElem_range, List.getElem_reverse]
    rw [hn]
    simp only [Array.length_toList, Array.getElem_toList]
    rw [Array.getD_eq_getD_getElem?, Array.getElem?_eq_getElem (by omega)]
    rfl
theorem rev_size (row : Str) (u : Tok) : (Txt.sliceBy row none none (-1, u)).cps.size = row.cps.size := step_rev_len row u
noncomputable def mirS (row : Str) : Str := ⟨(row.cps.toList.reverse.map flipN).toArray⟩
theorem mirS_codes (row : Str) : codesOf (mirS row) = mir (codesOf row) := by
  unfold codesOf mirS mir
  rw [List.toList_toArray, List.map_map, List.map_map, List.map_reverse]
  congr 1
  refine List.map_congr_left fun c _ => ?_
  exact flipN_eq c
theorem mirS_len (row : Str) : (mirS row).length = row.length := by
  show ((row.cps.toList.reverse.map flipN).toArray).size = row.cps.size
  simp
theorem row_four {row : Str} (hc : Codes (codesOf row)) {i c : Nat} (h : row.cps.toList.reverse[i]? = some c) : c = 40 ∨ c = 41 ∨ c = 97 ∨ c = 32 := by
  have hm : c ∈ row.cps.toList := List.mem_reverse.mp (List.mem_of_getElem? h)
  have := hc.2 (c : Int) (List.mem_map.mpr ⟨c, hm, rfl⟩)
  rcases this with h | h | h | h <;> omega
end
-- D6
noncomputable section
set_option maxRecDepth 100000

theorem due_endB {row : Str} {at_ count d : Int} {i : Bool} {r : Res} {l : List Value} (h : count < 0) (hq : mapRes (· - 1) (fwdN (codesOf (mirS row)) i (0 - count).toNat ((row.length : Int) - (at_ - 1) + 1) d) = r) (ht : ToldIs (mapRes (fun x => 1 + (row.length : Int) - x) r) l) : ToldIs (scanR (codesOf row) at_ count d i) l := by
  subst hq
  rw [mirS_codes, ← codes_len, unRes_map, show ((codesOf row).length : Int) - (at_ - 1) + 1 = (codesOf row).length + 2 - at_ by omega] at ht
  unfold scanR
  rw [if_neg (by omega), bwdN_eq]
  exact ht
set_option maxHeartbeats 16000000 in
theorem law_due_bwd (w : World) (row : Str) (at_ count d : Int) (tr ta tk td : Tok) (i : Bool) (hl : row.length ≤ 90) (hc : Codes (codesOf row)) (hp : 1 ≤ at_ ∧ at_ ≤ 1 + row.length) (hct : -3 ≤ count ∧ count < 0) :
    Does w 4 32 Any 686 [.str row tr, .int at_ ta, .int count tk, .int d td, .bool i] [] (fun r nx => LedIs (scanR (codesOf row) at_ count d i) r nx) := by
  unfold Does
  intro mean mg mb dp un gd cn cs a ccd cl outer A₀ base h₀ L m s g₀ Q E B F X N T hk hP st dj hd hu hret
  refine wpAny_call ?_
  k_dflt (refine' enterX (binds := [(Str.ofString "row", .str row tr), (Str.ofString "at", .int at_ ta), (Str.ofString "count", .int count tk), (Str.ofString "depth", .int d td), (Str.ofString "is_expression", .bool i)]) ?k1 ?k2 ?k3 ?k4 ?k5 ?kA ?kF ?kK ?k6 ?k7 ?k8 ?k9 ?kB ?kD ?_ ?c2 ?c3 ?c4; (case kA => exact rfl); (case kF => exact rfl); (case kK => assumption); (case k1 => k_asm); (case k2 => k_asm); (case k3 => k_asm); (case k4 => k_asm); (case k5 => k_asm); (case k6 => k_is); (case k7 => k_is); (case k8 => ktr_room); (case k9 => first | exact BindsTo.of_eq rfl | exact binds_K (by k_in) rfl (by k_is) rfl rfl rfl); (case kB => exact rfl); (case kD => decide +kernel); (case c2 => exact rfl); (case c3 => exact rfl); (case c4 => exact rfl); k_whole; intro g' L' h' tk' cells' FG' F' N' Y' B' X' T' hg' l1; (try k_lt l1); k_cells Y'; (try simp only [List.cons_append, List.nil_append] at N'); (try dsimp only); (try k_fold))
  clear hP st dj
  (rename Obj.data _ = _ => hcd9; have hcd8 : _ = Data.cell (some (Value.str row tr)) := hcd9; clear hcd9)
  (repeat' (first | (k_unfold; (try dsimp only)) | (k_end; kc_close) | ((with_reducible show wpAny _ _ (execs (_ :: _) _) _ _ _); (with_reducible refine wpAny_execs_cons ?_); first | k_fold | (try dsimp only)) | (k_closed; first | ((with_reducible refine ite_pos ?_ ?_); (focus (k_dflt decide))) | ((with_reducible refine ite_neg ?_ ?_); (focus (k_dflt decide)))) | ((with_reducible show wpAny _ _ (call (.ref _) _) _ _ _); first | ((with_reducible show wpAny _ _ (call (.ref 681) _) _ _ _); (k_dflt (refine' Does.nil (law_scan_does _ _ _ _ _ _ _ _ _ _ ?hl ?hc ?hp ?hk) ?uB ?uF ?uX ?uN ?uT ?uk ?uP ?ud ?uu ?_; walk_at "mine:n"; (case hl => first | assumption | omega); (case hc => assumption); (case hp => omega); (case hk => omega); k_whole; intro rZ nxZ hZ tkZ FZ NZ hrZ; (try dsimp only at hrZ); ((obtain ⟨tpZ, itemsZ, nZ, hr1Z, hnxZ, hTZ⟩ := hrZ); subst hr1Z; subst hnxZ; rcases itemsZ with ⟨itemsZ⟩; (try dsimp only at hTZ); (generalize hqZ : mapRes _ (fwdN _ _ _ _ _) = resZ at hTZ); (rcases resZ with pZ | _ | ⟨aZ, bZ⟩ | ⟨aZ, bZ⟩ <;> (first | (obtain ⟨tZ, uZ, vZ, hiZ⟩ := hTZ; subst hiZ) | (obtain ⟨tZ, uZ, hiZ⟩ := hTZ; subst hiZ) | (obtain ⟨tZ, hiZ⟩ := hTZ; subst hiZ)))); all_goals (try simp only [List.cons_append, List.nil_append] at NZ); walk_at "mine:f")))) | ((with_reducible show wpAny _ _ (call (.builtin "str.join") _) _ _ _); (k_here; k_dflt (refine' join_sgs ?hl ?hi ?hx ?hw ?hr ?_; (case hl => exact News.isList (by k_asm) (by k_mem)); (case hi => assumption); (case hx => rfl); (case hw => assumption); (case hr => assumption)); intro tZ kZ)) | ((with_reducible show SrcG _ _ _ _ _ _ _ _ _ _); (k_here; (with_reducible show SrcG _ _ _ _ _ _ _ _ (.ref _) _); k_dflt (refine SrcG.tup (by rfl) (by k_asm) (by k_asm) (by k_mem) (by exact small_tup rfl) ?_; intro gZ; lcg_lit))) | ((with_reducible show SrcG _ _ _ _ _ _ _ _ _ _); ((with_reducible show SrcG _ _ _ _ _ _ _ _ (.str _ _) _); refine halt ?_)) | ((with_reducible show wpAny _ _ (eval (.ListComp _ _ _ _) _) _ _ _); (k_here; k_dflt (refine ListComp_W (F₀ := by k_asm) (by with_unfolding_all rfl) (by decide) (by rfl) (by decide) (by rfl) ?_))) | ((with_reducible show LCg.CompEnd _ _ _ _ _ _ _ _ _ _ _ _ _ _); (first | (refine LCg.CompEnd.intro (by assumption) (by assumption) _ (fun _ hp => hp) (by assumption) (by lcg_src) ?_) | lcg_end)) | ((with_reducible show LCg.CompRest _ _ _ _ _ _ _ _ _ _ _ _ _ _ _ _ _ _ _); (with_unfolding_all first | (refine LCg.CompRest.succ ?_; intro vZ IZ oIZ CZ oCZ DZ mZ hZ tkZ EZ hvZ hCZ hxZ FZ NZ offZ neZ; lcg_open hvZ) | refine LCg.CompRest.zero ?_)) | ((with_reducible show wpAny _ _ (subscriptTail _ _ (.ref _) (.ref _)) _ _ _); (k_here; k_dflt (refine' slice_tuple_from (a := 1) ?qF ?qN ?qt ?qa ?qb ?_ (hsz := ?qc); (case qF => k_asm); (case qN => k_asm); (case qt => exact News.isTup (by k_asm) (by k_mem)); (case qa => decide); (case qb => exact Nat.succ_le_succ (Nat.zero_le _)); (case qc => exact small_tup rfl)); intro hZ FZ NZ; (try dsimp only [List.drop] at NZ); (try k_sweep))) | ((with_reducible show wpAny _ _ (subscriptTail _ _ (.ref _) (.ref _)) _ _ _); (k_here; k_dflt (first | (refine' slice_one ?qF ?qN ?qt ?_; (case qF => k_asm); (case qN => k_asm); (case qt => exact News.isTup (by k_asm) (by k_mem))) | (refine' slice_onlyone ?qF ?qN ?qt ?_; (case qF => k_asm); (case qN => k_asm); (case qt => exact News.isTup (by k_asm) (by k_mem)))); intro hZ FZ NZ; (try k_sweep))) | ((with_reducible show wpAny _ _ (call (.builtin "len") _) _ _ _); (k_here; (with_reducible show wpAny _ _ (call (Value.builtin "len") [Value.str _ _]) _ _ _); k_dflt (refine' len_row ?qf ?_; (case qf => assumption); k_whole))) | walk1 | (dsimp only; with_reducible show wpAny _ _ (call (.ref _) _) _ _ _) | (dsimp only; walk1) | (leave1; (try dsimp only))))
  refine unhalt ?_
  refine SrcG.text (by rfl) (by k_asm) (by k_asm) ?hsz ?_
  rotate_left
  · intro g'
    refine' rest_inv (fun i ys nw => nw = [(L' + 1, _)] ∧ StrsAre ys (sgs ((row.cps.toList.reverse.take i).map flipN))) ⟨rfl, .nil⟩ ?_ ?_
    · rintro i₁ ys₁ _ hi₁ ⟨rfl, hys⟩ v I' oI' C' oC' D' m' h' tk' E' hv' hC' hx' F' N' off' ne'
      (refine cps ?_; intro G9 out9)
      obtain ⟨c', u', hc', hv''⟩ := hv'
      (refine out9 ?_; clear out9 G9)
      subst hv''
      rw [← Array.getElem?_toList, rev_list] at hc'
      rcases row_four hc hc' with rfl | rfl | rfl | rfl
      all_goals (repeat' (first | (k_unfold; (try dsimp only)) | (k_end; kc_close) | ((with_reducible show wpAny _ _ (execs (_ :: _) _) _ _ _); (with_reducible refine wpAny_execs_cons ?_); first | k_fold | (try dsimp only)) | (k_closed; first | ((with_reducible refine ite_pos ?_ ?_); (focus (k_dflt decide))) | ((with_reducible refine ite_neg ?_ ?_); (focus (k_dflt decide)))) | ((with_reducible show wpAny _ _ (call (.ref _) _) _ _ _); first | ((with_reducible show wpAny _ _ (call (.ref 681) _) _ _ _); (k_dflt (refine' Does.nil (law_scan_does _ _ _ _ _ _ _ _ _ _ ?hl ?hc ?hp ?hk) ?uB ?uF ?uX ?uN ?uT ?uk ?uP ?ud ?uu ?_; walk_at "mine:n"; (case hl => first | assumption | omega); (case hc => assumption); (case hp => omega); (case hk => omega); k_whole; intro rZ nxZ hZ tkZ FZ NZ hrZ; (try dsimp only at hrZ); ((obtain ⟨tpZ, itemsZ, nZ, hr1Z, hnxZ, hTZ⟩ := hrZ); subst hr1Z; subst hnxZ; rcases itemsZ with ⟨itemsZ⟩; (try dsimp only at hTZ); (generalize hqZ : mapRes _ (fwdN _ _ _ _ _) = resZ at hTZ); (rcases resZ with pZ | _ | ⟨aZ, bZ⟩ | ⟨aZ, bZ⟩ <;> (first | (obtain ⟨tZ, uZ, vZ, hiZ⟩ := hTZ; subst hiZ) | (obtain ⟨tZ, uZ, hiZ⟩ := hTZ; subst hiZ) | (obtain ⟨tZ, hiZ⟩ := hTZ; subst hiZ)))); all_goals (try simp only [List.cons_append, List.nil_append] at NZ); walk_at "mine:f")))) | ((with_reducible show wpAny _ _ (call (.builtin "str.join") _) _ _ _); (k_here; k_dflt (refine' join_sgs ?hl ?hi ?hx ?hw ?hr ?_; (case hl => exact News.isList (by k_asm) (by k_mem)); (case hi => assumption); (case hx => rfl); (case hw => assumption); (case hr => assumption)); intro tZ kZ)) | ((with_reducible show SrcG _ _ _ _ _ _ _ _ _ _); (k_here; (with_reducible show SrcG _ _ _ _ _ _ _ _ (.ref _) _); k_dflt (refine SrcG.tup (by rfl) (by k_asm) (by k_asm) (by k_mem) (by exact small_tup rfl) ?_; intro gZ; lcg_lit))) | ((with_reducible show SrcG _ _ _ _ _ _ _ _ _ _); ((with_reducible show SrcG _ _ _ _ _ _ _ _ (.str _ _) _); refine halt ?_)) | ((with_reducible show wpAny _ _ (eval (.ListComp _ _ _ _) _) _ _ _); (k_here; k_dflt (refine ListComp_W (F₀ := by k_asm) (by with_unfolding_all rfl) (by decide) (by rfl) (by decide) (by rfl) ?_))) | ((with_reducible show LCg.CompEnd _ _ _ _ _ _ _ _ _ _ _ _ _ _); (first | (refine LCg.CompEnd.intro (by assumption) (by assumption) _ (fun _ hp => hp) (by assumption) (by lcg_src) ?_) | lcg_end)) | ((with_reducible show LCg.CompRest _ _ _ _ _ _ _ _ _ _ _ _ _ _ _ _ _ _ _); (with_unfolding_all first | (refine LCg.CompRest.succ ?_; intro vZ IZ oIZ CZ oCZ DZ mZ hZ tkZ EZ hvZ hCZ hxZ FZ NZ offZ neZ; lcg_open hvZ) | refine LCg.CompRest.zero ?_)) | ((with_reducible show wpAny _ _ (subscriptTail _ _ (.ref _) (.ref _)) _ _ _); (k_here; k_dflt (refine' slice_tuple_from (a := 1) ?qF ?qN ?qt ?qa ?qb ?_ (hsz := ?qc); (case qF => k_asm); (case qN => k_asm); (case qt => exact News.isTup (by k_asm) (by k_mem)); (case qa => decide); (case qb => exact Nat.succ_le_succ (Nat.zero_le _)); (case qc => exact small_tup rfl)); intro hZ FZ NZ; (try dsimp only [List.drop] at NZ); (try k_sweep))) | ((with_reducible show wpAny _ _ (subscriptTail _ _ (.ref _) (.ref _)) _ _ _); (k_here; k_dflt (first | (refine' slice_one ?qF ?qN ?qt ?_; (case qF => k_asm); (case qN => k_asm); (case qt => exact News.isTup (by k_asm) (by k_mem))) | (refine' slice_onlyone ?qF ?qN ?qt ?_; (case qF => k_asm); (case qN => k_asm); (case qt => exact News.isTup (by k_asm) (by k_mem)))); intro hZ FZ NZ; (try k_sweep))) | ((with_reducible show wpAny _ _ (call (.builtin "len") _) _ _ _); (k_here; (with_reducible show wpAny _ _ (call (Value.builtin "len") [Value.str _ _]) _ _ _); k_dflt (refine' len_row ?qf ?_; (case qf => assumption); k_whole))) | walk1 | (dsimp only; with_reducible show wpAny _ _ (call (.ref _) _) _ _ _) | (dsimp only; walk1) | (leave1; (try dsimp only))))
      all_goals (refine' LCg.CompEnd.intro ?cF ?cN [(L' + 1, _)] ?cS ?cO True.intro ⟨rfl, sgs_snoc hys hc' ?cE⟩; (case cF => assumption); (case cN => assumption); (case cS => lcg_sub); (case cO => assumption); (case cE => rfl))
    · rintro ys₁ _ ⟨rfl, hys⟩
      have hsz9 : row.cps.toList.reverse.length ≤ row.cps.size := by rw [List.length_reverse]; exact Nat.le_of_eq Array.length_toList
      have hys2 : StrsAre ys₁ (sgs (row.cps.toList.reverse.map flipN)) := by
        rw [rev_size, List.take_of_length_le hsz9] at hys; exact hys
      clear hys
      have hw9 : (row.cps.toList.reverse.map flipN).length ≤ 100 := by
        rw [List.length_map]
        have : row.cps.size = row.length := rfl
        omega
      have hr9 : (⟨(row.cps.toList.reverse.map flipN).toArray⟩ : Str) = mirS row := rfl
      have hl9 : (mirS row).length = row.length := mirS_len row
      have hc9 : Codes (codesOf (mirS row)) := by rw [mirS_codes]; exact mir_codes hc
      (repeat' (first | (k_unfold; (try dsimp only)) | (k_end; kc_close) | ((with_reducible show wpAny _ _ (execs (_ :: _) _) _ _ _); (with_reducible refine wpAny_execs_cons ?_); first | k_fold | (try dsimp only)) | (k_closed; first | ((with_reducible refine ite_pos ?_ ?_); (focus (k_dflt decide))) | ((with_reducible refine ite_neg ?_ ?_); (focus (k_dflt decide)))) | ((with_reducible show wpAny _ _ (call (.ref _) _) _ _ _); first | ((with_reducible show wpAny _ _ (call (.ref 681) _) _ _ _); (k_dflt (refine' Does.nil (law_scan_does _ _ _ _ _ _ _ _ _ _ ?hl ?hc ?hp ?hk) ?uB ?uF ?uX ?uN ?uT ?uk ?uP ?ud ?uu ?_; walk_at "mine:n"; (case hl => first | assumption | omega); (case hc => assumption); (case hp => omega); (case hk => omega); k_whole; intro rZ nxZ hZ tkZ FZ NZ hrZ; (try dsimp only at hrZ); ((obtain ⟨tpZ, itemsZ, nZ, hr1Z, hnxZ, hTZ⟩ := hrZ); subst hr1Z; subst hnxZ; rcases itemsZ with ⟨itemsZ⟩; (try dsimp only at hTZ); (generalize hqZ : mapRes _ (fwdN _ _ _ _ _) = resZ at hTZ); (rcases resZ with pZ | _ | ⟨aZ, bZ⟩ | ⟨aZ, bZ⟩ <;> (first | (obtain ⟨tZ, uZ, vZ, hiZ⟩ := hTZ; subst hiZ) | (obtain ⟨tZ, uZ, hiZ⟩ := hTZ; subst hiZ) | (obtain ⟨tZ, hiZ⟩ := hTZ; subst hiZ)))); all_goals (try simp only [List.cons_append, List.nil_append] at NZ); walk_at "mine:f")))) | ((with_reducible show wpAny _ _ (call (.builtin "str.join") _) _ _ _); (k_here; k_dflt (refine' join_sgs ?hl ?hi ?hx ?hw ?hr ?_; (case hl => exact News.isList (by k_asm) (by k_mem)); (case hi => assumption); (case hx => rfl); (case hw => assumption); (case hr => assumption)); intro tZ kZ)) | ((with_reducible show SrcG _ _ _ _ _ _ _ _ _ _); (k_here; (with_reducible show SrcG _ _ _ _ _ _ _ _ (.ref _) _); k_dflt (refine SrcG.tup (by rfl) (by k_asm) (by k_asm) (by k_mem) (by exact small_tup rfl) ?_; intro gZ; lcg_lit))) | ((with_reducible show SrcG _ _ _ _ _ _ _ _ _ _); ((with_reducible show SrcG _ _ _ _ _ _ _ _ (.str _ _) _); refine halt ?_)) | ((with_reducible show wpAny _ _ (eval (.ListComp _ _ _ _) _) _ _ _); (k_here; k_dflt (refine ListComp_W (F₀ := by k_asm) (by with_unfolding_all rfl) (by decide) (by rfl) (by decide) (by rfl) ?_))) | ((with_reducible show LCg.CompEnd _ _ _ _ _ _ _ _ _ _ _ _ _ _); (first | (refine LCg.CompEnd.intro (by assumption) (by assumption) _ (fun _ hp => hp) (by assumption) (by lcg_src) ?_) | lcg_end)) | ((with_reducible show LCg.CompRest _ _ _ _ _ _ _ _ _ _ _ _ _ _ _ _ _ _ _); (with_unfolding_all first | (refine LCg.CompRest.succ ?_; intro vZ IZ oIZ CZ oCZ DZ mZ hZ tkZ EZ hvZ hCZ hxZ FZ NZ offZ neZ; lcg_open hvZ) | refine LCg.CompRest.zero ?_)) | ((with_reducible show wpAny _ _ (subscriptTail _ _ (.ref _) (.ref _)) _ _ _); (k_here; k_dflt (refine' slice_tuple_from (a := 1) ?qF ?qN ?qt ?qa ?qb ?_ (hsz := ?qc); (case qF => k_asm); (case qN => k_asm); (case qt => exact News.isTup (by k_asm) (by k_mem)); (case qa => decide); (case qb => exact Nat.succ_le_succ (Nat.zero_le _)); (case qc => exact small_tup rfl)); intro hZ FZ NZ; (try dsimp only [List.drop] at NZ); (try k_sweep))) | ((with_reducible show wpAny _ _ (subscriptTail _ _ (.ref _) (.ref _)) _ _ _); (k_here; k_dflt (first | (refine' slice_one ?qF ?qN ?qt ?_; (case qF => k_asm); (case qN => k_asm); (case qt => exact News.isTup (by k_asm) (by k_mem))) | (refine' slice_onlyone ?qF ?qN ?qt ?_; (case qF => k_asm); (case qN => k_asm); (case qt => exact News.isTup (by k_asm) (by k_mem)))); intro hZ FZ NZ; (try k_sweep))) | ((with_reducible show wpAny _ _ (call (.builtin "len") _) _ _ _); (k_here; (with_reducible show wpAny _ _ (call (Value.builtin "len") [Value.str _ _]) _ _ _); k_dflt (refine' len_row ?qf ?_; (case qf => assumption); k_whole))) | walk1 | (dsimp only; with_reducible show wpAny _ _ (call (.ref _) _) _ _ _) | (dsimp only; walk1) | (leave1; (try dsimp only))))
      all_goals (refine' hret _ [(_, { cls := .type "tuple", data := .seq _ _ })] _ _ ?f ?n (Kept.of_frame hg' (by assumption)) ⟨_, _, _, rfl, rfl, due_endB hct.2 (by assumption) ?_⟩; (case f => assumption); (case n => exact News.sub (by assumption) (by (first | (refine sub1 ?_; k_mem) | (refine sub2 ?_ ?_; k_mem; k_mem) | (refine sub3 ?_ ?_ ?_; k_mem; k_mem; k_mem) | ((repeat (refine' List.forall_mem_cons.mpr ⟨?_, ?_⟩; focus k_mem)); exact List.forall_mem_nil _)))))
      · exact toldAt rfl
      · exact toldNone
      · exact toldSoon rfl rfl
      · exact toldUnbal rfl rfl
  · rw [rev_size, sizeLine_eq]
    have : row.cps.size = row.length := rfl
    omega
theorem law_due_does (w : World) (row : Str) (at_ count d : Int) (tr ta tk td : Tok) (i : Bool) (hl : row.length ≤ 90) (hc : Codes (codesOf row)) (hp : 1 ≤ at_ ∧ at_ ≤ 1 + row.length) (hct : -3 ≤ count ∧ count ≤ 3) :
    Does w 4 32 Any 686 [.str row tr, .int at_ ta, .int count tk, .int d td, .bool i] [] (fun r nx => LedIs (scanR (codesOf row) at_ count d i) r nx) := by
  by_cases q : 0 ≤ count
  · exact law_due_fwd w row at_ count d tr ta tk td i hl hc hp ⟨q, hct.2⟩
  · exact law_due_bwd w row at_ count d tr ta tk td i hl hc hp ⟨hct.1, by omega⟩
end
-- F1
noncomputable section
set_option maxRecDepth 100000

theorem occ_empty (c : Nat) : (Builtin.Str.occurrences (Str.ofString "") ⟨#[c]⟩ 0 (Str.ofString "").length 1).isEmpty = true := by
  have e : (Str.ofString "").length = 0 := by decide
  rw [e]
  have e1 : (⟨#[c]⟩ : Str).length = 1 := rfl
  unfold Builtin.Str.occurrences
  simp [Id.run, e1]
  rfl
set_option maxHeartbeats 8000000 in
theorem sorted_flags_does (w : World) (t : Tok) :
    Does w 1 8 Any 153 [.str (Str.ofString "") t] [] (fun r nx => nx = [] ∧ ∃ u, r = .str (Str.ofString "") u) := by
  unfold Does
  intro mean mg mb dp un gd cn cs a ccd cl outer A₀ base h₀ L m s g₀ Q E B F X N T hk hP st dj hd hu hret
  refine wpAny_call ?_
  k_dflt (refine' enterX (binds := [(Str.ofString "text", .str (Str.ofString "") t)]) ?k1 ?k2 ?k3 ?k4 ?k5 ?kA ?kF ?kK ?k6 ?k7 ?k8 ?k9 ?kB ?kD ?_ ?c2 ?c3 ?c4; (case kA => exact rfl); (case kF => exact rfl); (case kK => assumption); (case k1 => k_asm); (case k2 => k_asm); (case k3 => k_asm); (case k4 => k_asm); (case k5 => k_asm); (case k6 => k_is); (case k7 => k_is); (case k8 => ktr_room); (case k9 => first | exact BindsTo.of_eq rfl | exact binds_K (by k_in) rfl (by k_is) rfl rfl rfl); (case kB => exact rfl); (case kD => decide +kernel); (case c2 => exact rfl); (case c3 => exact rfl); (case c4 => exact rfl); k_whole; intro g' L' h' tk' cells' FG' F' N' Y' B' X' T' hg' l1; (try k_lt l1); k_cells Y'; (try simp only [List.cons_append, List.nil_append] at N'); (try dsimp only); (try k_fold))
  clear hP st dj
  (rename Obj.data _ = _ => hcd9; have hcd8 : _ = Data.cell (some (Value.str (Str.ofString "") t)) := hcd9; clear hcd9)
  (repeat' (first | (k_unfold; (try dsimp only)) | (k_end; kc_close) | ((with_reducible show wpAny _ _ (execs (_ :: _) _) _ _ _); (with_reducible refine wpAny_execs_cons ?_); first | k_fold | (try dsimp only)) | (k_closed; first | ((with_reducible refine ite_pos ?_ ?_); (focus (k_dflt decide))) | ((with_reducible refine ite_neg ?_ ?_); (focus (k_dflt decide)))) | ((with_reducible show SrcG _ _ _ _ _ _ _ _ _ _); (refine halt ?_)) | ((with_reducible show wpAny _ _ (eval (.ListComp _ _ _ _) _) _ _ _); (k_here; k_dflt (refine ListComp_WT (F₀ := by k_asm) (by with_unfolding_all rfl) (by decide) (by rfl) (by decide) (by rfl) ?_))) | ((with_reducible show wpAny _ _ (exec (.While _ _ _ _) _) _ _ _); refine halt ?_) | ((with_reducible show wpAny _ _ (exec (.For _ _ _ _ _) _) _ _ _); refine halt ?_) | walk1 | (dsimp only; walk1) | (leave1; (try dsimp only))))
  refine unhalt ?_
  refine SrcG.text (by rfl) (by k_asm) (by k_asm) (by decide) ?_
  intro g'
  refine' restT_inv (fun i ys nw => nw = [(L' + 1, _)] ∧ ys = []) ⟨rfl, rfl⟩ ?_ ?_
  · rintro i₁ _ _ hi₁ ⟨rfl, rfl⟩ v I' oI' C' oC' D' m' h' tk' E' ⟨c', u', hc', hv'⟩ hC' hx' F' N' off' ne'
    subst hv'
    (repeat' (first | (k_unfold; (try dsimp only)) | (k_end; kc_close) | ((with_reducible show wpAny _ _ (execs (_ :: _) _) _ _ _); (with_reducible refine wpAny_execs_cons ?_); first | k_fold | (try dsimp only)) | (k_closed; first | ((with_reducible refine ite_pos ?_ ?_); (focus (k_dflt decide))) | ((with_reducible refine ite_neg ?_ ?_); (focus (k_dflt decide)))) | ((with_reducible show SrcG _ _ _ _ _ _ _ _ _ _); (refine halt ?_)) | ((with_reducible show wpAny _ _ (eval (.ListComp _ _ _ _) _) _ _ _); (k_here; k_dflt (refine ListComp_WT (F₀ := by k_asm) (by with_unfolding_all rfl) (by decide) (by rfl) (by decide) (by rfl) ?_))) | ((with_reducible show wpAny _ _ (exec (.While _ _ _ _) _) _ _ _); refine halt ?_) | ((with_reducible show wpAny _ _ (exec (.For _ _ _ _ _) _) _ _ _); refine halt ?_) | walk1 | (dsimp only; walk1) | (leave1; (try dsimp only))))
    · refine' LCg.CompEnd.intro ?cF ?cN [(L' + 1, _)] ?cS ?cO True.intro ⟨rfl, rfl⟩; (case cF => assumption); (case cN => assumption); (case cS => lcg_sub); (case cO => assumption)
    · rename _ = false => hb
      rw [occ_empty] at hb
      cases hb
  · rintro _ _ ⟨rfl, rfl⟩
    (repeat' (first | (k_unfold; (try dsimp only)) | (k_end; kc_close) | ((with_reducible show wpAny _ _ (execs (_ :: _) _) _ _ _); (with_reducible refine wpAny_execs_cons ?_); first | k_fold | (try dsimp only)) | (k_closed; first | ((with_reducible refine ite_pos ?_ ?_); (focus (k_dflt decide))) | ((with_reducible refine ite_neg ?_ ?_); (focus (k_dflt decide)))) | ((with_reducible show SrcG _ _ _ _ _ _ _ _ _ _); (refine halt ?_)) | ((with_reducible show wpAny _ _ (eval (.ListComp _ _ _ _) _) _ _ _); (k_here; k_dflt (refine ListComp_WT (F₀ := by k_asm) (by with_unfolding_all rfl) (by decide) (by rfl) (by decide) (by rfl) ?_))) | ((with_reducible show wpAny _ _ (exec (.While _ _ _ _) _) _ _ _); refine halt ?_) | ((with_reducible show wpAny _ _ (exec (.For _ _ _ _ _) _) _ _ _); refine halt ?_) | walk1 | (dsimp only; walk1) | (leave1; (try dsimp only))))
    all_goals (refine' hret _ [] _ _ ?f ?n (Kept.of_frame hg' (by assumption)) ⟨rfl, _, rfl⟩; (case f => assumption); (case n => exact News.nil))
end
-- F2
noncomputable section
set_option maxRecDepth 100000

/-- a sign's syntax, on the ledger -/
noncomputable def SynLed (k : Str) (x : Addr) (nx : Led) : Prop :=
  ∃ (d : Addr) (h1 h2 h3 : Int) (k1 k2 k3 t1 t3 : Tok) (mv : Value), nx = [(x, instObj 144 d), (d, dictOf [⟨h1, .str (Str.ofString "kind") k1, .str k t1⟩, ⟨h2, .str (Str.ofString "match") k2, mv⟩, ⟨h3, .str (Str.ofString "flags") k3, .str (Str.ofString "") t3⟩] 3)]
set_option maxHeartbeats 4000000 in
theorem syn_init {w : World} {A A₀ : Around} {base h₀ : Heap} {outer : List Env} {env : Env} {L : Addr} {m : Str → Option Value} {s : Shared} {mean : ExcName → Option Value} {mg mb : Str → Option Value} {R : Result → Shared → Prop} {x dx : Addr} {k0 : Str} {mv : Value} {tk0 tf : Tok}
    (B : Below A₀ base outer h₀) (F : Fr h₀ L s.heap m) (X : (K w.params).In h₀) (N : News h₀ L s.heap [(x, instObj 144 dx), (dx, dictOf [] 0)]) (T : Tp mean mg mb h₀) (hA : A.frames = some (env :: outer)) (hf : env.frame = some L) (hke : env.scope.kind = .function) (hroom : A.depth < recursionLimit) (hlt : @LT.lt Nat _ dx x)
    (k : ∀ h' tk' nx, Fr h₀ L h' m → News h₀ L h' nx → Kept s.heap [(x, instObj 144 dx), (dx, dictOf [] 0)] h' → SynLed k0 x nx → R (.ok (.ret .none)) { s with heap := h', toks := tk' }) :
    codeAny (model Pg w) A (.call (.ref 113) ⟨[.ref x, .str k0 tk0, mv, .str (Str.ofString "") tf], []⟩) R s := by
  k_dflt (refine' enter (binds := [(Str.ofString "self", .ref x), (Str.ofString "kind", .str k0 tk0), (Str.ofString "match", mv), (Str.ofString "flags", .str (Str.ofString "") tf)]) ?k1 ?k2 ?k3 ?k4 ?k5 ?kA ?kF ?kK ?k6 ?k7 ?k8 ?k9 ?kB ?_ ?c2 ?c3 ?c4 ?c5; (case kA => assumption); (case kF => assumption); (case kK => assumption); (case k1 => k_asm); (case k2 => k_asm); (case k3 => k_asm); (case k4 => k_asm); (case k5 => k_asm); (case k6 => k_is); (case k7 => k_is); (case k8 => ktr_room); (case k9 => first | exact BindsTo.of_eq rfl | exact binds_K (by k_in) rfl (by k_is) rfl rfl rfl); (case c5 => decide); (case kB => exact locs rfl); (case c2 => exact rfl); (case c3 => exact rfl); (case c4 => exact rfl); k_whole; intro g' L' h' tk0 FG' F' N' B' X' T' hg'; (try dsimp only); (try k_fold); (try (refine letA ?_; intro Ak)))
  (repeat' (first | (k_unfold; (try dsimp only)) | (k_end; kc_close) | ((with_reducible show wpAny _ _ (execs (_ :: _) _) _ _ _); (with_reducible refine wpAny_execs_cons ?_); (try dsimp only)) | (k_closed; first | ((with_reducible refine ite_pos ?_ ?_); (focus (k_dflt decide))) | ((with_reducible refine ite_neg ?_ ?_); (focus (k_dflt decide)))) | ((with_reducible show wpAny _ _ (call (.ref _) _) _ _ _); first | ((with_reducible show wpAny _ _ (call (.ref 153) _) _ _ _); (k_dflt (refine' Does.pureT (sorted_flags_does _ _) ?uB ?uF ?uX ?uN ?uT ?uk ?uP ?ust ?ud ?uu ?_; walk_at "mine:p"; k_whole; intro tZ hZ tkZ FZ NZ; (try k_sweep); (try dsimp only))))) | ((with_reducible show SrcG _ _ _ _ _ _ _ _ _ _); (refine halt ?_)) | ((with_reducible show wpAny _ _ (eval (.ListComp _ _ _ _) _) _ _ _); (k_here; k_dflt (refine ListComp_W (F₀ := by k_asm) (by with_unfolding_all rfl) (by decide) (by rfl) (by decide) (by rfl) ?_))) | ((with_reducible show wpAny _ _ (exec (.While _ _ _ _) _) _ _ _); refine halt ?_) | ((with_reducible show wpAny _ _ (exec (.For _ _ _ _ _) _) _ _ _); refine halt ?_) | ((with_reducible show wpAny _ _ (eval (.Name _ _) _) _ _ _); k_here; k_dflt (refine' ld ?k1 ?k2 ?_; (case k1 => k_asm); (case k2 => first | with_reducible assumption | exact rfl | assumption); k_whole)) | walk1 | (dsimp only; with_reducible show wpAny _ _ (call (.ref _) _) _ _ _) | (dsimp only; walk1) | (leave1; (try dsimp only))))
  exact k _ _ _ (by assumption) (by assumption) (Kept.of_frame hg' (by assumption)) ⟨_, _, _, _, _, _, _, _, _, _, rfl⟩
theorem new_syn {w : World} {A A₀ : Around} {base h₀ : Heap} {outer : List Env} {env : Env} {L : Addr} {m : Str → Option Value} {s : Shared} {mean : ExcName → Option Value} {mg mb : Str → Option Value} {Q E : Value → Shared → Prop} {news : Led} {k0 : Str} {mv : Value} {tk0 tf : Tok}
    (B : Below A₀ base outer h₀) (F : Fr h₀ L s.heap m) (X : (K w.params).In h₀) (N : News h₀ L s.heap news) (T : Tp mean mg mb h₀) (hA : A.frames = some (env :: outer)) (hf : env.frame = some L) (hke : env.scope.kind = .function) (hroom : A.depth + 1 < recursionLimit)
    (k : ∀ x h' tk' nx, Fr h₀ L h' m → News h₀ L h' (nx ++ news) → SynLed k0 x nx → Q (.ref x) { s with heap := h', toks := tk' }) :
    wpAny (model Pg w) A (call (.ref 144) [.str k0 tk0, mv, .str (Str.ofString "") tf]) Q E s := by
  refine call_cls F X N (by k_is) (by k_is) (by k_is) ?_
  intro x dx h' F' N' l1 l2
  have N2 : News h₀ L h' [(x, instObj 144 dx), (dx, dictOf [] 0)] := News.sub N' fun p hp => by
    rcases List.mem_cons.mp hp with rfl | hp
    · exact .head _
    · rcases List.mem_cons.mp hp with rfl | hp
      · exact .tail _ (.head _)
      · cases hp
  skip
  refine syn_init (s := { s with heap := h' }) B F' X N2 T hA hf hke (by first | ktr_room | (show A.depth + 1 < _; omega)) l2 fun h2 tk2 nx F2 Nx Kp hS => ?_
  refine ⟨rfl, k x h2 tk2 nx F2 (fun p hp => ?_) hS⟩
  rcases List.mem_append.mp hp with hp | hp
  · exact Nx p hp
  · have hN := N' p (.tail _ (.tail _ hp))
    have h1 := l1 p hp
    refine ⟨Kp _ _ hN.1 fun q hq z => ?_, hN.2⟩
    rcases List.mem_cons.mp hq with rfl | hq
    · have z' : x = p.1 := z
      rw [← z'] at h1
      exact Nat.lt_irrefl _ (Nat.lt_trans h1 l2)
    · rcases List.mem_cons.mp hq with rfl | hq
      · have z' : dx = p.1 := z
        rw [← z'] at h1
        exact Nat.lt_irrefl _ h1
      · cases hq
set_option maxHeartbeats 8000000 in
theorem read_syntax_one (w : World) (x : Str) (t : Tok) (h1 : (x == Str.ofString "") = false) (hl : x.length = 1) (h2 : (Txt.item x 0 == Str.ofString "-") = false)
    (h3 : (Builtin.Str.occurrences (Str.ofString " w_.()'\"\\/$<>@!|") (Txt.item x 0) 0 (Str.ofString " w_.()'\"\\/$<>@!|").length 1).isEmpty = false) (hs : Txt.slice x (some 2) none = Str.ofString "") :
    Does w 3 24 Any 158 [.str x t] [] (fun r nx => ∃ y, r = .ref y ∧ SynLed (Txt.item x 0) y nx) := by
  unfold Does
  intro mean mg mb dp un gd cn cs a ccd cl outer A₀ base h₀ L m s g₀ Q E B F X N T hk hP st dj hd hu hret
  refine wpAny_call ?_
  k_dflt (refine' enter (binds := [(Str.ofString "text", .str x t)]) ?k1 ?k2 ?k3 ?k4 ?k5 ?kA ?kF ?kK ?k6 ?k7 ?k8 ?k9 ?kB ?_ ?c2 ?c3 ?c4 ?c5; (case kA => exact rfl); (case kF => exact rfl); (case kK => assumption); (case k1 => k_asm); (case k2 => k_asm); (case k3 => k_asm); (case k4 => k_asm); (case k5 => k_asm); (case k6 => k_is); (case k7 => k_is); (case k8 => ktr_room); (case k9 => first | exact BindsTo.of_eq rfl | exact binds_K (by k_in) rfl (by k_is) rfl rfl rfl); (case c5 => decide); (case kB => exact locs rfl); (case c2 => exact rfl); (case c3 => exact rfl); (case c4 => exact rfl); k_whole; intro g' L' h' tk0 FG' F' N' B' X' T' hg'; (try dsimp only); (try k_fold); (try (refine letA ?_; intro Ak)))
  clear hP st dj
  (repeat' (first | (k_unfold; (try dsimp only)) | (k_end; kc_close) | ((with_reducible show wpAny _ _ (execs (_ :: _) _) _ _ _); (with_reducible refine wpAny_execs_cons ?_); first | k_fold | (try dsimp only)) | (k_closed; first | ((with_reducible refine ite_pos ?_ ?_); (focus (k_dflt decide))) | ((with_reducible refine ite_neg ?_ ?_); (focus (k_dflt decide)))) | ((with_reducible show wpAny _ _ (call (.ref _) _) _ _ _); first | ((with_reducible show wpAny _ _ (call (.ref 144) _) _ _ _); (k_dflt (refine' new_syn ?uB ?uF ?uX ?uN ?uT ?u1 ?u2 ?u3 ?ud ?_; walk_at "mine:c"; (obtain ⟨dxZ, h1Z, h2Z, h3Z, k1Z, k2Z, k3Z, t1Z, t3Z, mvZ, hnxZ⟩ := hSZ); subst hnxZ; walk_at "mine:f"))) | ((with_reducible show wpAny _ _ (call (.ref 153) _) _ _ _); (k_dflt (refine' Does.pureT (sorted_flags_does _ _) ?uB ?uF ?uX ?uN ?uT ?uk ?uP ?ust ?ud ?uu ?_; walk_at "mine:p"; k_whole; intro tZ hZ tkZ FZ NZ; (try k_sweep); (try dsimp only))))) | ((with_reducible show SrcG _ _ _ _ _ _ _ _ _ _); (refine halt ?_)) | ((with_reducible show wpAny _ _ (eval (.ListComp _ _ _ _) _) _ _ _); (k_here; k_dflt (refine ListComp_W (F₀ := by k_asm) (by with_unfolding_all rfl) (by decide) (by rfl) (by decide) (by rfl) ?_))) | ((with_reducible show wpAny _ _ (exec (.While _ _ _ _) _) _ _ _); refine halt ?_) | ((with_reducible show wpAny _ _ (exec (.For _ _ _ _ _) _) _ _ _); refine halt ?_) | ((with_reducible show wpAny _ _ (eval (.Name _ _) _) _ _ _); k_here; k_dflt (refine' ld ?k1 ?k2 ?_; (case k1 => k_asm); (case k2 => first | with_reducible assumption | exact rfl | assumption); k_whole)) | walk1 | (dsimp only; with_reducible show wpAny _ _ (call (.ref _) _) _ _ _) | (dsimp only; walk1) | (leave1; (try dsimp only))))
  · generalize Txt.slice x (some 2) none = fl at *
    subst hs
    refine unhalt ?_
    refine SrcG.text (by rfl) (by k_asm) (by k_asm) (by decide) ?_
    intro g'
    show LCg.CompRest _ _ _ _ _ _ _ _ _ _ _ _ _ _ _ 0 _ _ _
    (repeat' (first | (k_unfold; (try dsimp only)) | (k_end; kc_close) | ((with_reducible show wpAny _ _ (execs (_ :: _) _) _ _ _); (with_reducible refine wpAny_execs_cons ?_); first | k_fold | (try dsimp only)) | (k_closed; first | ((with_reducible refine ite_pos ?_ ?_); (focus (k_dflt decide))) | ((with_reducible refine ite_neg ?_ ?_); (focus (k_dflt decide)))) | ((with_reducible show wpAny _ _ (call (.ref _) _) _ _ _); first | ((with_reducible show wpAny _ _ (call (.ref 144) _) _ _ _); (k_dflt (refine' new_syn ?uB ?uF ?uX ?uN ?uT ?u1 ?u2 ?u3 ?ud ?_; walk_at "mine:c"; (obtain ⟨dxZ, h1Z, h2Z, h3Z, k1Z, k2Z, k3Z, t1Z, t3Z, mvZ, hnxZ⟩ := hSZ); subst hnxZ; walk_at "mine:f"))) | ((with_reducible show wpAny _ _ (call (.ref 153) _) _ _ _); (k_dflt (refine' Does.pureT (sorted_flags_does _ _) ?uB ?uF ?uX ?uN ?uT ?uk ?uP ?ust ?ud ?uu ?_; walk_at "mine:p"; k_whole; intro tZ hZ tkZ FZ NZ; (try k_sweep); (try dsimp only))))) | ((with_reducible show SrcG _ _ _ _ _ _ _ _ _ _); (refine halt ?_)) | ((with_reducible show wpAny _ _ (eval (.ListComp _ _ _ _) _) _ _ _); (k_here; k_dflt (refine ListComp_W (F₀ := by k_asm) (by with_unfolding_all rfl) (by decide) (by rfl) (by decide) (by rfl) ?_))) | ((with_reducible show wpAny _ _ (exec (.While _ _ _ _) _) _ _ _); refine halt ?_) | ((with_reducible show wpAny _ _ (exec (.For _ _ _ _ _) _) _ _ _); refine halt ?_) | ((with_reducible show wpAny _ _ (eval (.Name _ _) _) _ _ _); k_here; k_dflt (refine' ld ?k1 ?k2 ?_; (case k1 => k_asm); (case k2 => first | with_reducible assumption | exact rfl | assumption); k_whole)) | walk1 | (dsimp only; with_reducible show wpAny _ _ (call (.ref _) _) _ _ _) | (dsimp only; walk1) | (leave1; (try dsimp only))))
    exact hret _ _ _ _ (by assumption) (by first | assumption | exact News.sub (by assumption) (by (first | (refine sub1 ?_; k_mem) | (refine sub2 ?_ ?_; k_mem; k_mem) | (refine sub3 ?_ ?_ ?_; k_mem; k_mem; k_mem) | ((repeat (refine' List.forall_mem_cons.mpr ⟨?_, ?_⟩; focus k_mem)); exact List.forall_mem_nil _)))) (Kept.of_frame hg' (by assumption)) ⟨_, rfl, _, _, _, _, _, _, _, _, _, _, rfl⟩
end
-- F3
noncomputable section
set_option maxRecDepth 100000

theorem valueAt_stored (kvs : List (Int × Value)) (k j : Int) (v : Value) : valueAt (stored kvs k v) j = if j = k then some v else valueAt kvs j := by
  unfold stored valueAt
  by_cases h : kvs.any (fun kv => kv.1 = k) = true
  · rw [if_pos h]
    induction kvs with
    | nil => cases h
    | cons p r ih =>
      simp only [List.map_cons, List.find?_cons]
      by_cases e : p.1 = k
      · rw [if_pos e]
        by_cases q : j = k
        · rw [if_pos q]
          simp [e, q]
        · rw [if_neg q]
          have hq : ¬ (p.1 = j) := fun z => q (z ▸ e)
          simp only [hq, decide_false]
          by_cases hr : r.any (fun kv => kv.1 = k) = true
          · have := ih hr
            rw [if_neg q] at this
            exact this
          · have hm : (r.map fun kv => if kv.1 = k then (kv.1, v) else kv) = r := by
              refine (List.map_congr_left fun kv hkv => ?_).trans (List.map_id r)
              have : ¬ (kv.1 = k) := fun z => hr (List.any_eq_true.mpr ⟨kv, hkv, by simp [z]⟩)
              rw [if_neg this]; rfl
            rw [hm]
      · rw [if_neg e]
        have hr : r.any (fun kv => kv.1 = k) = true := by
          simp only [List.any_cons, e, decide_false, Bool.false_or] at h
          exact h
        by_cases q : p.1 = j
        · have qk : ¬ (j = k) := fun z => e (q.trans z)
          simp [q, qk]
        · simp only [q, decide_false]
          exact ih hr
  · rw [if_neg h]
    rw [List.find?_append]
    by_cases q : j = k
    · have hn : kvs.find? (fun kv => decide (kv.1 = j)) = none := by
        refine List.find?_eq_none.mpr fun kv hkv z => h (List.any_eq_true.mpr ⟨kv, hkv, ?_⟩)
        rw [← q]; exact z
      rw [if_pos q, hn]
      simp [q]
    · rw [if_neg q]
      have hk : ¬ (k = j) := fun z => q z.symm
      simp [hk]
noncomputable def setAll (kvs : List (Int × Value)) (cs : List Nat) (v : Value) : List (Int × Value) := cs.foldl (fun (a : List (Int × Value)) (c : Nat) => stored a (c : Int) v) kvs
theorem setAll_snoc (kvs : List (Int × Value)) (cs : List Nat) (c : Nat) (v : Value) : stored (setAll kvs cs v) (c : Int) v = setAll kvs (cs ++ [c]) v := by
  unfold setAll
  rw [List.foldl_append]
  rfl
theorem setAll_len (kvs : List (Int × Value)) (cs : List Nat) (v : Value) : (setAll kvs cs v).length ≤ kvs.length + cs.length := by
  unfold setAll
  induction cs generalizing kvs with
  | nil => exact Nat.le_refl _
  | cons c cs ih =>
    have h1 := ih (stored kvs (c : Int) v)
    have h2 := stored_length_le kvs (c : Int) v
    simp only [List.foldl_cons, List.length_cons]
    omega
theorem valueAt_setAll (kvs : List (Int × Value)) (cs : List Nat) (v : Value) (j : Int) : valueAt (setAll kvs cs v) j = if cs.any (fun c => decide ((c : Int) = j)) then some v else valueAt kvs j := by
  unfold setAll
  induction cs generalizing kvs with
  | nil => rfl
  | cons c cs ih =>
    simp only [List.foldl_cons, List.any_cons]
    rw [ih, valueAt_stored]
    by_cases h2 : (c : Int) = j
    · subst h2
      simp
    · have h3 : ¬ (j = (c : Int)) := fun z => h2 z.symm
      simp [h2, h3]
theorem setAll_take {kvs : List (Int × Value)} {text : Str} {i c : Nat} {v : Value} (hc : text.cps[i]? = some c) : stored (setAll kvs (text.cps.toList.take i) v) (c : Int) v = setAll kvs (text.cps.toList.take (i + 1)) v := by
  rw [← Array.getElem?_toList] at hc
  rw [setAll_snoc, List.take_add_one, hc]
  rfl
noncomputable def NotInt (w : World) (o : Obj) : Prop := ∀ kvs, ¬ o.IsDictOf (intKind Pg w) kvs
theorem notInt_inst (w : World) (c d : Addr) : NotInt w (instObj c d) := by
  rintro kvs ⟨es, ep, _, h, _⟩
  cases h
theorem notInt_str (w : World) (h : Int) (a : Str) (t : Tok) (v : Value) (r : List _) (n : Nat) : NotInt w (dictOf (⟨h, .str a t, v⟩ :: r) n) := by
  rintro kvs ⟨es, ep, _, hd, hk, _⟩
  have he : es = (⟨⟨h, .str a t, v⟩ :: r⟩ : Array _) := by cases hd; rfl
  subst he
  obtain ⟨k, hk, _⟩ := hk ⟨h, .str a t, v⟩ (by simp)
  cases hk
theorem apart_dict {w : World} {g h : Heap} {L rd a : Addr} {led : Led} {o oa : Obj} {kvs : List (Int × Value)} (N : News g L h led) (m1 : (rd, o) ∈ led) (hd : o.IsDictOf (intKind Pg w) kvs) (m2 : (a, oa) ∈ led) (hne : NotInt w oa) : @Ne Nat a rd := by
  intro z
  have z' : a = rd := z
  subst z'
  have e1 := (N _ m1).1
  have e2 := (N _ m2).1
  rw [e1] at e2
  have e3 : o = oa := Option.some.inj e2
  exact hne kvs (e3 ▸ hd)
set_option maxHeartbeats 8000000 in
theorem modify_all_does (w : World) (tb dt rd : Addr) (o : Obj) (kvs : List (Int × Value)) (text desc k : Str) (tt td k1 k2 : Tok) (h1 h2 : Int) (hdo : o.IsDictOf (intKind Pg w) kvs) (hkv : kvs.length ≤ 1500) (hl : text.length ≤ 100)
    (D : Does w 3 24 Any 158 [.str desc td] [] (fun r nx => ∃ y, r = .ref y ∧ SynLed k y nx)) :
    Does w 4 40 Any 187 [.ref tb, .str text tt, .str desc td] [(tb, instObj 225 dt), (dt, dictOf [⟨h1, .str (Str.ofString "parent") k1, .none⟩, ⟨h2, .str (Str.ofString "rows") k2, .ref rd⟩] 2), (rd, o)]
      (fun r nx => r = .none ∧ ∃ y o' nxs, nx = nxs ++ [(tb, instObj 225 dt), (dt, dictOf [⟨h1, .str (Str.ofString "parent") k1, .none⟩, ⟨h2, .str (Str.ofString "rows") k2, .ref rd⟩] 2), (rd, o')] ∧ SynLed k y nxs ∧ o'.IsDictOf (intKind Pg w) (setAll kvs text.cps.toList (.ref y))) := by
  unfold Does
  intro mean mg mb dp un gd cn cs a ccd cl outer A₀ base h₀ L m s g₀ Q E B F X N T hk hP st dj hd hu hret
  refine wpAny_call ?_
  k_dflt (refine' enter (binds := [(Str.ofString "self", .ref tb), (Str.ofString "text", .str text tt), (Str.ofString "description", .str desc td)]) ?k1 ?k2 ?k3 ?k4 ?k5 ?kA ?kF ?kK ?k6 ?k7 ?k8 ?k9 ?kB ?_ ?c2 ?c3 ?c4 ?c5; (case kA => exact rfl); (case kF => exact rfl); (case kK => assumption); (case k1 => k_asm); (case k2 => k_asm); (case k3 => k_asm); (case k4 => k_asm); (case k5 => k_asm); (case k6 => k_is); (case k7 => k_is); (case k8 => ktr_room); (case k9 => first | exact BindsTo.of_eq rfl | exact binds_K (by k_in) rfl (by k_is) rfl rfl rfl); (case c5 => decide); (case kB => exact locs rfl); (case c2 => exact rfl); (case c3 => exact rfl); (case c4 => exact rfl); k_whole; intro g' L' h' tk0 FG' F' N' B' X' T' hg'; (try dsimp only); (try k_fold); (try (refine letA ?_; intro Ak)))
  clear hP st dj
  (repeat' (first | (k_unfold; (try dsimp only)) | (k_end; kc_close) | ((with_reducible show wpAny _ _ (execs (_ :: _) _) _ _ _); (with_reducible refine wpAny_execs_cons ?_); first | k_fold | (try dsimp only)) | (k_closed; first | ((with_reducible refine ite_pos ?_ ?_); (focus (k_dflt decide))) | ((with_reducible refine ite_neg ?_ ?_); (focus (k_dflt decide)))) | ((with_reducible show wpAny _ _ (call (.ref _) _) _ _ _); first | ((with_reducible show wpAny _ _ (call (.ref 158) _) _ _ _); (refine halt ?_)) | ((with_reducible show wpAny _ _ (call (.ref 158) _) _ _ _); (k_dflt (refine' Does.nil ((by assumption)) ?uB ?uF ?uX ?uN ?uT ?uk ?uP ?ud ?uu ?_; walk_at "mine:n"; k_whole; intro rZ nxZ hZ tkZ FZ NZ hrZ; (try dsimp only at hrZ); ((obtain ⟨yZ, hr9, hSZ⟩ := hrZ); subst hr9; (obtain ⟨dxZ, h1Z, h2Z, h3Z, k1Z, k2Z, k3Z, t1Z, t3Z, mvZ, hnxZ⟩ := hSZ); subst hnxZ); walk_at "mine:f")))) | ((with_reducible show wpAny _ _ (setItem (.ref _) (.int _ _) _) _ _ _); (k_here; k_dflt (refine' kda_set (knd := PySem.intKind _ _) ?qF ?qN ?qU ?qd (intKind_is _ _ _ _) ?qz ?_; (case qF => k_asm); (case qN => k_asm); (case qU => k_updF); (case qd => assumption); (case qz => assumption)); intro hZ oZ FZ NZ hdZ; (try dsimp only at NZ))) | ((with_reducible show wpAny _ _ (exec (.While _ _ _ _) _) _ _ _); refine halt ?_) | ((with_reducible show wpAny _ _ (exec (.For _ _ _ _ _) _) _ _ _); refine halt ?_) | ((with_reducible show wpAny _ _ (eval (.Name _ _) _) _ _ _); k_here; k_dflt (refine' ld ?k1 ?k2 ?_; (case k1 => k_asm); (case k2 => first | with_reducible assumption | exact rfl | assumption); k_whole)) | walk1 | (dsimp only; with_reducible show wpAny _ _ (call (.ref _) _) _ _ _) | (dsimp only; walk1) | (leave1; (try dsimp only))))
  refine unhalt ?_
  (with_reducible show wpAny _ _ (call (.ref 158) _) _ _ _)
  (k_dflt (refine' Does.nil ((by assumption)) ?uB ?uF ?uX ?uN ?uT ?uk ?uP ?ud ?uu ?_; ((case uB => k_asm); (case uF => k_asm); (case uX => k_asm); (case uT => k_asm); (case uk => exact rfl); (case uN => k_asm); (case uP => first | exact any_any _ | assumption | exact ⟨by assumption, by assumption⟩); (case ud => ktr_room); (case uu => ktr_units)); k_whole; intro r' nx' h' tk' F' N' hr'; (try dsimp only at hr'); ((obtain ⟨y', hr9, hS'⟩ := hr'); subst hr9; (obtain ⟨dx', h1', h2', h3', k1', k2', k3', t1', t3', mv', hnx'⟩ := hS'); subst hnx'); ((try simp only [List.cons_append, List.nil_append] at N'); (try k_sweep); (try dsimp only))))
  (repeat' (first | (k_unfold; (try dsimp only)) | (k_end; kc_close) | ((with_reducible show wpAny _ _ (execs (_ :: _) _) _ _ _); (with_reducible refine wpAny_execs_cons ?_); first | k_fold | (try dsimp only)) | (k_closed; first | ((with_reducible refine ite_pos ?_ ?_); (focus (k_dflt decide))) | ((with_reducible refine ite_neg ?_ ?_); (focus (k_dflt decide)))) | ((with_reducible show wpAny _ _ (call (.ref _) _) _ _ _); first | ((with_reducible show wpAny _ _ (call (.ref 158) _) _ _ _); (refine halt ?_)) | ((with_reducible show wpAny _ _ (call (.ref 158) _) _ _ _); (k_dflt (refine' Does.nil ((by assumption)) ?uB ?uF ?uX ?uN ?uT ?uk ?uP ?ud ?uu ?_; walk_at "mine:n"; k_whole; intro rZ nxZ hZ tkZ FZ NZ hrZ; (try dsimp only at hrZ); ((obtain ⟨yZ, hr9, hSZ⟩ := hrZ); subst hr9; (obtain ⟨dxZ, h1Z, h2Z, h3Z, k1Z, k2Z, k3Z, t1Z, t3Z, mvZ, hnxZ⟩ := hSZ); subst hnxZ); walk_at "mine:f")))) | ((with_reducible show wpAny _ _ (setItem (.ref _) (.int _ _) _) _ _ _); (k_here; k_dflt (refine' kda_set (knd := PySem.intKind _ _) ?qF ?qN ?qU ?qd (intKind_is _ _ _ _) ?qz ?_; (case qF => k_asm); (case qN => k_asm); (case qU => k_updF); (case qd => assumption); (case qz => assumption)); intro hZ oZ FZ NZ hdZ; (try dsimp only at NZ))) | ((with_reducible show wpAny _ _ (exec (.While _ _ _ _) _) _ _ _); refine halt ?_) | ((with_reducible show wpAny _ _ (exec (.For _ _ _ _ _) _) _ _ _); refine halt ?_) | ((with_reducible show wpAny _ _ (eval (.Name _ _) _) _ _ _); k_here; k_dflt (refine' ld ?k1 ?k2 ?_; (case k1 => k_asm); (case k2 => first | with_reducible assumption | exact rfl | assumption); k_whole)) | walk1 | (dsimp only; with_reducible show wpAny _ _ (call (.ref _) _) _ _ _) | (dsimp only; walk1) | (leave1; (try dsimp only))))
  refine unhalt ?_
  refine For_W (F₀ := by assumption) (by rfl) (by rfl) ?_
  (repeat' (first | (k_unfold; (try dsimp only)) | (k_end; kc_close) | ((with_reducible show wpAny _ _ (execs (_ :: _) _) _ _ _); (with_reducible refine wpAny_execs_cons ?_); first | k_fold | (try dsimp only)) | (k_closed; first | ((with_reducible refine ite_pos ?_ ?_); (focus (k_dflt decide))) | ((with_reducible refine ite_neg ?_ ?_); (focus (k_dflt decide)))) | ((with_reducible show wpAny _ _ (call (.ref _) _) _ _ _); first | ((with_reducible show wpAny _ _ (call (.ref 158) _) _ _ _); (refine halt ?_)) | ((with_reducible show wpAny _ _ (call (.ref 158) _) _ _ _); (k_dflt (refine' Does.nil ((by assumption)) ?uB ?uF ?uX ?uN ?uT ?uk ?uP ?ud ?uu ?_; walk_at "mine:n"; k_whole; intro rZ nxZ hZ tkZ FZ NZ hrZ; (try dsimp only at hrZ); ((obtain ⟨yZ, hr9, hSZ⟩ := hrZ); subst hr9; (obtain ⟨dxZ, h1Z, h2Z, h3Z, k1Z, k2Z, k3Z, t1Z, t3Z, mvZ, hnxZ⟩ := hSZ); subst hnxZ); walk_at "mine:f")))) | ((with_reducible show wpAny _ _ (setItem (.ref _) (.int _ _) _) _ _ _); (k_here; k_dflt (refine' kda_set (knd := PySem.intKind _ _) ?qF ?qN ?qU ?qd (intKind_is _ _ _ _) ?qz ?_; (case qF => k_asm); (case qN => k_asm); (case qU => k_updF); (case qd => assumption); (case qz => assumption)); intro hZ oZ FZ NZ hdZ; (try dsimp only at NZ))) | ((with_reducible show wpAny _ _ (exec (.While _ _ _ _) _) _ _ _); refine halt ?_) | ((with_reducible show wpAny _ _ (exec (.For _ _ _ _ _) _) _ _ _); refine halt ?_) | ((with_reducible show wpAny _ _ (eval (.Name _ _) _) _ _ _); k_here; k_dflt (refine' ld ?k1 ?k2 ?_; (case k1 => k_asm); (case k2 => first | with_reducible assumption | exact rfl | assumption); k_whole)) | walk1 | (dsimp only; with_reducible show wpAny _ _ (call (.ref _) _) _ _ _) | (dsimp only; walk1) | (leave1; (try dsimp only))))
  refine SrcF.text (by rfl) (by k_asm) (by k_asm) ?_
  intro g2
  generalize hod : dictOf [_, _, _] 3 = od at *
  refine' ⟨fun i m₁ news₁ => m₁ (Str.ofString "self") = some (.ref tb) ∧ m₁ (Str.ofString "syntax") = some (.ref y') ∧ ∃ o', news₁ = [(y', instObj 144 dx'), (dx', od), (tb, instObj 225 dt), (dt, dictOf [⟨h1, .str (Str.ofString "parent") k1, .none⟩, ⟨h2, .str (Str.ofString "rows") k2, .ref rd⟩] 2), (rd, o')] ∧ o'.IsDictOf (intKind Pg w) (setAll kvs (text.cps.toList.take i) (.ref y')), ⟨rfl, rfl, o, rfl, hdo⟩, ?_, ?_⟩
  · rintro i v m₁ _ h tk I oI hi ⟨c, u, hc, rfl⟩ ⟨a1, a2, o', rfl, hd'⟩ off F₁ N₁ _
    have hz : (setAll kvs (text.cps.toList.take i) (.ref y')).length ≤ sizeLine := by
      have e1 := setAll_len kvs (text.cps.toList.take i) (.ref y')
      have e2 := List.length_take_le' i text.cps.toList
      have e3 : text.cps.toList.length = text.length := Array.length_toList
      rw [sizeLine_eq]
      omega
    have q1 : @Ne Nat I rd := fun z => off (rd, o') (by simp) z.symm
    have q2 := apart_dict N₁ (by k_mem : (rd, o') ∈ _) hd' (by k_mem : (y', instObj 144 dx') ∈ _) (notInt_inst _ _ _)
    have q3 := apart_dict N₁ (by k_mem : (rd, o') ∈ _) hd' (by k_mem : (dx', od) ∈ _) (hod ▸ notInt_str _ _ _ _ _ _ _)
    have q4 := apart_dict N₁ (by k_mem : (rd, o') ∈ _) hd' (by k_mem : (tb, instObj 225 dt) ∈ _) (notInt_inst _ _ _)
    have q5 := apart_dict N₁ (by k_mem : (rd, o') ∈ _) hd' (by k_mem : (dt, dictOf [⟨h1, .str (Str.ofString "parent") k1, .none⟩, ⟨h2, .str (Str.ofString "rows") k2, .ref rd⟩] 2) ∈ _) (notInt_str _ _ _ _ _ _ _)
    (repeat' (first | (k_unfold; (try dsimp only)) | (k_end; kc_close) | ((with_reducible show wpAny _ _ (execs (_ :: _) _) _ _ _); (with_reducible refine wpAny_execs_cons ?_); first | k_fold | (try dsimp only)) | (k_closed; first | ((with_reducible refine ite_pos ?_ ?_); (focus (k_dflt decide))) | ((with_reducible refine ite_neg ?_ ?_); (focus (k_dflt decide)))) | ((with_reducible show wpAny _ _ (call (.ref _) _) _ _ _); first | ((with_reducible show wpAny _ _ (call (.ref 158) _) _ _ _); (refine halt ?_)) | ((with_reducible show wpAny _ _ (call (.ref 158) _) _ _ _); (k_dflt (refine' Does.nil ((by assumption)) ?uB ?uF ?uX ?uN ?uT ?uk ?uP ?ud ?uu ?_; walk_at "mine:n"; k_whole; intro rZ nxZ hZ tkZ FZ NZ hrZ; (try dsimp only at hrZ); ((obtain ⟨yZ, hr9, hSZ⟩ := hrZ); subst hr9; (obtain ⟨dxZ, h1Z, h2Z, h3Z, k1Z, k2Z, k3Z, t1Z, t3Z, mvZ, hnxZ⟩ := hSZ); subst hnxZ); walk_at "mine:f")))) | ((with_reducible show wpAny _ _ (setItem (.ref _) (.int _ _) _) _ _ _); (k_here; k_dflt (refine' kda_set (knd := PySem.intKind _ _) ?qF ?qN ?qU ?qd (intKind_is _ _ _ _) ?qz ?_; (case qF => k_asm); (case qN => k_asm); (case qU => k_updF); (case qd => assumption); (case qz => assumption)); intro hZ oZ FZ NZ hdZ; (try dsimp only at NZ))) | ((with_reducible show wpAny _ _ (exec (.While _ _ _ _) _) _ _ _); refine halt ?_) | ((with_reducible show wpAny _ _ (exec (.For _ _ _ _ _) _) _ _ _); refine halt ?_) | ((with_reducible show wpAny _ _ (eval (.Name _ _) _) _ _ _); k_here; k_dflt (refine' ld ?k1 ?k2 ?_; (case k1 => k_asm); (case k2 => first | with_reducible assumption | exact rfl | assumption); k_whole)) | walk1 | (dsimp only; with_reducible show wpAny _ _ (call (.ref _) _) _ _ _) | (dsimp only; walk1) | (leave1; (try dsimp only))))
    refine' ⟨_, _, _, [(y', instObj 144 dx'), (dx', od), (tb, instObj 225 dt), (dt, dictOf [⟨h1, .str (Str.ofString "parent") k1, .none⟩, ⟨h2, .str (Str.ofString "rows") k2, .ref rd⟩] 2), (rd, _)], rfl, ?cF, ?cN, ?cO, ?ca, ?cb, _, rfl, ?cd⟩
    (case cF => assumption)
    (case cN => assumption)
    (case cO => exact off_map off rfl)
    (case ca => exact a1)
    (case cb => exact a2)
    rw [← setAll_take hc]
    assumption
  · intro h' tk' m' _ F₁ N₁ hI9
    (try k_fold)
    (refine cps ?_; intro G9 out9)
    obtain ⟨a1, a2, o', rfl, hd'⟩ := hI9
    (refine out9 ?_; clear out9 G9)
    (repeat' (first | (k_unfold; (try dsimp only)) | (k_end; kc_close) | ((with_reducible show wpAny _ _ (execs (_ :: _) _) _ _ _); (with_reducible refine wpAny_execs_cons ?_); first | k_fold | (try dsimp only)) | (k_closed; first | ((with_reducible refine ite_pos ?_ ?_); (focus (k_dflt decide))) | ((with_reducible refine ite_neg ?_ ?_); (focus (k_dflt decide)))) | ((with_reducible show wpAny _ _ (call (.ref _) _) _ _ _); first | ((with_reducible show wpAny _ _ (call (.ref 158) _) _ _ _); (refine halt ?_)) | ((with_reducible show wpAny _ _ (call (.ref 158) _) _ _ _); (k_dflt (refine' Does.nil ((by assumption)) ?uB ?uF ?uX ?uN ?uT ?uk ?uP ?ud ?uu ?_; walk_at "mine:n"; k_whole; intro rZ nxZ hZ tkZ FZ NZ hrZ; (try dsimp only at hrZ); ((obtain ⟨yZ, hr9, hSZ⟩ := hrZ); subst hr9; (obtain ⟨dxZ, h1Z, h2Z, h3Z, k1Z, k2Z, k3Z, t1Z, t3Z, mvZ, hnxZ⟩ := hSZ); subst hnxZ); walk_at "mine:f")))) | ((with_reducible show wpAny _ _ (setItem (.ref _) (.int _ _) _) _ _ _); (k_here; k_dflt (refine' kda_set (knd := PySem.intKind _ _) ?qF ?qN ?qU ?qd (intKind_is _ _ _ _) ?qz ?_; (case qF => k_asm); (case qN => k_asm); (case qU => k_updF); (case qd => assumption); (case qz => assumption)); intro hZ oZ FZ NZ hdZ; (try dsimp only at NZ))) | ((with_reducible show wpAny _ _ (exec (.While _ _ _ _) _) _ _ _); refine halt ?_) | ((with_reducible show wpAny _ _ (exec (.For _ _ _ _ _) _) _ _ _); refine halt ?_) | ((with_reducible show wpAny _ _ (eval (.Name _ _) _) _ _ _); k_here; k_dflt (refine' ld ?k1 ?k2 ?_; (case k1 => k_asm); (case k2 => first | with_reducible assumption | exact rfl | assumption); k_whole)) | walk1 | (dsimp only; with_reducible show wpAny _ _ (call (.ref _) _) _ _ _) | (dsimp only; walk1) | (leave1; (try dsimp only))))
    rw [List.take_of_length_le (Nat.le_of_eq Array.length_toList)] at hd'
    subst hod
    exact hret _ [(y', instObj 144 dx'), (dx', _), (tb, instObj 225 dt), (dt, dictOf [⟨h1, .str (Str.ofString "parent") k1, .none⟩, ⟨h2, .str (Str.ofString "rows") k2, .ref rd⟩] 2), (rd, _)] _ _ (by assumption) (News.sub (by assumption) (by (first | (refine sub1 ?_; k_mem) | (refine sub2 ?_ ?_; k_mem; k_mem) | (refine sub3 ?_ ?_ ?_; k_mem; k_mem; k_mem) | ((repeat (refine' List.forall_mem_cons.mpr ⟨?_, ?_⟩; focus k_mem)); exact List.forall_mem_nil _)))) (Kept.of_frame hg' (by assumption)) ⟨rfl, y', _, [(y', instObj 144 dx'), (dx', _)], rfl, ⟨_, _, _, _, _, _, _, _, _, _, rfl⟩, hd'⟩
/-- the four signs' rows -/
noncomputable def Rows4 (kvs : List (Int × Value)) (a b c d : Option Value) : Prop := valueAt kvs 40 = a ∧ valueAt kvs 41 = b ∧ valueAt kvs 97 = c ∧ valueAt kvs 32 = d
noncomputable def hasC (text : Str) (c : Nat) : Bool := text.cps.toList.any fun x => decide (x = c)
theorem hasC_eq {text : Str} {c : Nat} {b : Bool} (h : hasC text c = b) : (text.cps.toList.any fun x => decide ((x : Int) = (c : Int))) = b := by
  rw [← h]
  unfold hasC
  refine congrArg (fun f => List.any text.cps.toList f) (funext fun x => ?_)
  by_cases q : x = c
  · rw [decide_eq_true q, decide_eq_true (by omega)]
  · rw [decide_eq_false q, decide_eq_false (by omega)]
theorem rows4_set {kvs : List (Int × Value)} {a b c d : Option Value} {text : Str} {v : Value} {e1 e2 e3 e4 : Bool} (h : Rows4 kvs a b c d) (h1 : hasC text 40 = e1) (h2 : hasC text 41 = e2) (h3 : hasC text 97 = e3) (h4 : hasC text 32 = e4) :
    Rows4 (setAll kvs text.cps.toList v) (cond e1 (some v) a) (cond e2 (some v) b) (cond e3 (some v) c) (cond e4 (some v) d) := by
  obtain ⟨r1, r2, r3, r4⟩ := h
  refine ⟨?_, ?_, ?_, ?_⟩
  · have z : (text.cps.toList.any fun x => decide ((x : Int) = 40)) = e1 := hasC_eq h1; rw [valueAt_setAll, z, r1]; cases e1 <;> rfl
  · have z : (text.cps.toList.any fun x => decide ((x : Int) = 41)) = e2 := hasC_eq h2; rw [valueAt_setAll, z, r2]; cases e2 <;> rfl
  · have z : (text.cps.toList.any fun x => decide ((x : Int) = 97)) = e3 := hasC_eq h3; rw [valueAt_setAll, z, r3]; cases e3 <;> rfl
  · have z : (text.cps.toList.any fun x => decide ((x : Int) = 32)) = e4 := hasC_eq h4; rw [valueAt_setAll, z, r4]; cases e4 <;> rfl
noncomputable def RowsAre (w : World) (o : Obj) (n : Nat) (a b c d : Option Value) : Prop := ∃ kvs, o.IsDictOf (intKind Pg w) kvs ∧ kvs.length ≤ n ∧ Rows4 kvs a b c d
theorem modify_all_rows (w : World) (tb dt rd : Addr) (o : Obj) (n : Nat) (a b c d : Option Value) (text desc k : Str) (tt td k1 k2 : Tok) (h1 h2 : Int) (hro : RowsAre w o n a b c d) (hkv : n ≤ 1500) (hl : text.length ≤ 100)
    {e1 e2 e3 e4 : Bool} (q1 : hasC text 40 = e1) (q2 : hasC text 41 = e2) (q3 : hasC text 97 = e3) (q4 : hasC text 32 = e4)
    (D : Does w 3 24 Any 158 [.str desc td] [] (fun r nx => ∃ y, r = .ref y ∧ SynLed k y nx)) :
    Does w 4 40 Any 187 [.ref tb, .str text tt, .str desc td] [(tb, instObj 225 dt), (dt, dictOf [⟨h1, .str (Str.ofString "parent") k1, .none⟩, ⟨h2, .str (Str.ofString "rows") k2, .ref rd⟩] 2), (rd, o)]
      (fun r nx => r = .none ∧ ∃ y o' nxs, nx = nxs ++ [(tb, instObj 225 dt), (dt, dictOf [⟨h1, .str (Str.ofString "parent") k1, .none⟩, ⟨h2, .str (Str.ofString "rows") k2, .ref rd⟩] 2), (rd, o')] ∧ SynLed k y nxs ∧ RowsAre w o' (n + 100) (cond e1 (some (.ref y)) a) (cond e2 (some (.ref y)) b) (cond e3 (some (.ref y)) c) (cond e4 (some (.ref y)) d)) := by
  obtain ⟨kvs, hdo, hln, hr⟩ := hro
  intro mean mg mb dp un gd cn cs a' ccd cl outer A₀ base h₀ L m s g₀ Q E B F X N T hk hP st dj hd hu hret
  refine modify_all_does w tb dt rd o kvs text desc k tt td k1 k2 h1 h2 hdo (by omega) hl D mean mg mb dp un gd cn cs a' ccd cl outer A₀ base h₀ L m s g₀ Q E B F X N T hk hP st dj hd hu ?_
  rintro r nx h' tk' F' N' kp ⟨rfl, y, o', nxs, rfl, hS, hd'⟩
  refine hret _ _ h' tk' F' N' kp ⟨rfl, y, o', nxs, rfl, hS, _, hd', ?_, rows4_set hr q1 q2 q3 q4⟩
  have z1 := setAll_len kvs text.cps.toList (.ref y)
  have z2 : text.cps.toList.length = text.length := Array.length_toList
  omega
end
-- F4
noncomputable section
set_option maxRecDepth 100000

set_option maxHeartbeats 8000000 in
theorem read_syntax_two (w : World) (x : Str) (t : Tok) (h1 : (x == Str.ofString "") = false) (hl : x.length = 2) (h2 : (Txt.item x 0 == Str.ofString "-") = false) (h4 : (Txt.item x 1 == Str.ofString " ") = false)
    (h3 : (Builtin.Str.occurrences (Str.ofString " w_.()'\"\\/$<>@!|") (Txt.item x 0) 0 (Str.ofString " w_.()'\"\\/$<>@!|").length 1).isEmpty = false) (hs : Txt.slice x (some 2) none = Str.ofString "") :
    Does w 3 24 Any 158 [.str x t] [] (fun r nx => ∃ y, r = .ref y ∧ SynLed (Txt.item x 0) y nx) := by
  unfold Does
  intro mean mg mb dp un gd cn cs a ccd cl outer A₀ base h₀ L m s g₀ Q E B F X N T hk hP st dj hd hu hret
  refine wpAny_call ?_
  k_dflt (refine' enter (binds := [(Str.ofString "text", .str x t)]) ?k1 ?k2 ?k3 ?k4 ?k5 ?kA ?kF ?kK ?k6 ?k7 ?k8 ?k9 ?kB ?_ ?c2 ?c3 ?c4 ?c5; (case kA => exact rfl); (case kF => exact rfl); (case kK => assumption); (case k1 => k_asm); (case k2 => k_asm); (case k3 => k_asm); (case k4 => k_asm); (case k5 => k_asm); (case k6 => k_is); (case k7 => k_is); (case k8 => ktr_room); (case k9 => first | exact BindsTo.of_eq rfl | exact binds_K (by k_in) rfl (by k_is) rfl rfl rfl); (case c5 => decide); (case kB => exact locs rfl); (case c2 => exact rfl); (case c3 => exact rfl); (case c4 => exact rfl); k_whole; intro g' L' h' tk0 FG' F' N' B' X' T' hg'; (try dsimp only); (try k_fold); (try (refine letA ?_; intro Ak)))
  clear hP st dj
  (repeat' (first | (k_unfold; (try dsimp only)) | (k_end; kc_close) | ((with_reducible show wpAny _ _ (execs (_ :: _) _) _ _ _); (with_reducible refine wpAny_execs_cons ?_); first | k_fold | (try dsimp only)) | (k_closed; first | ((with_reducible refine ite_pos ?_ ?_); (focus (k_dflt decide))) | ((with_reducible refine ite_neg ?_ ?_); (focus (k_dflt decide)))) | ((with_reducible show wpAny _ _ (call (.ref _) _) _ _ _); first | ((with_reducible show wpAny _ _ (call (.ref 144) _) _ _ _); (k_dflt (refine' new_syn ?uB ?uF ?uX ?uN ?uT ?u1 ?u2 ?u3 ?ud ?_; walk_at "mine:c"; (obtain ⟨dxZ, h1Z, h2Z, h3Z, k1Z, k2Z, k3Z, t1Z, t3Z, mvZ, hnxZ⟩ := hSZ); subst hnxZ; walk_at "mine:f"))) | ((with_reducible show wpAny _ _ (call (.ref 153) _) _ _ _); (k_dflt (refine' Does.pureT (sorted_flags_does _ _) ?uB ?uF ?uX ?uN ?uT ?uk ?uP ?ust ?ud ?uu ?_; walk_at "mine:p"; k_whole; intro tZ hZ tkZ FZ NZ; (try k_sweep); (try dsimp only))))) | ((with_reducible show SrcG _ _ _ _ _ _ _ _ _ _); (refine halt ?_)) | ((with_reducible show wpAny _ _ (eval (.ListComp _ _ _ _) _) _ _ _); (k_here; k_dflt (refine ListComp_W (F₀ := by k_asm) (by with_unfolding_all rfl) (by decide) (by rfl) (by decide) (by rfl) ?_))) | ((with_reducible show wpAny _ _ (exec (.While _ _ _ _) _) _ _ _); refine halt ?_) | ((with_reducible show wpAny _ _ (exec (.For _ _ _ _ _) _) _ _ _); refine halt ?_) | ((with_reducible show wpAny _ _ (eval (.Name _ _) _) _ _ _); k_here; k_dflt (refine' ld ?k1 ?k2 ?_; (case k1 => k_asm); (case k2 => first | with_reducible assumption | exact rfl | assumption); k_whole)) | walk1 | (dsimp only; with_reducible show wpAny _ _ (call (.ref _) _) _ _ _) | (dsimp only; walk1) | (leave1; (try dsimp only))))
  · generalize Txt.slice x (some 2) none = fl at *
    subst hs
    refine unhalt ?_
    refine SrcG.text (by rfl) (by k_asm) (by k_asm) (by decide) ?_
    intro g'
    show LCg.CompRest _ _ _ _ _ _ _ _ _ _ _ _ _ _ _ 0 _ _ _
    (repeat' (first | (k_unfold; (try dsimp only)) | (k_end; kc_close) | ((with_reducible show wpAny _ _ (execs (_ :: _) _) _ _ _); (with_reducible refine wpAny_execs_cons ?_); first | k_fold | (try dsimp only)) | (k_closed; first | ((with_reducible refine ite_pos ?_ ?_); (focus (k_dflt decide))) | ((with_reducible refine ite_neg ?_ ?_); (focus (k_dflt decide)))) | ((with_reducible show wpAny _ _ (call (.ref _) _) _ _ _); first | ((with_reducible show wpAny _ _ (call (.ref 144) _) _ _ _); (k_dflt (refine' new_syn ?uB ?uF ?uX ?uN ?uT ?u1 ?u2 ?u3 ?ud ?_; walk_at "mine:c"; (obtain ⟨dxZ, h1Z, h2Z, h3Z, k1Z, k2Z, k3Z, t1Z, t3Z, mvZ, hnxZ⟩ := hSZ); subst hnxZ; walk_at "mine:f"))) | ((with_reducible show wpAny _ _ (call (.ref 153) _) _ _ _); (k_dflt (refine' Does.pureT (sorted_flags_does _ _) ?uB ?uF ?uX ?uN ?uT ?uk ?uP ?ust ?ud ?uu ?_; walk_at "mine:p"; k_whole; intro tZ hZ tkZ FZ NZ; (try k_sweep); (try dsimp only))))) | ((with_reducible show SrcG _ _ _ _ _ _ _ _ _ _); (refine halt ?_)) | ((with_reducible show wpAny _ _ (eval (.ListComp _ _ _ _) _) _ _ _); (k_here; k_dflt (refine ListComp_W (F₀ := by k_asm) (by with_unfolding_all rfl) (by decide) (by rfl) (by decide) (by rfl) ?_))) | ((with_reducible show wpAny _ _ (exec (.While _ _ _ _) _) _ _ _); refine halt ?_) | ((with_reducible show wpAny _ _ (exec (.For _ _ _ _ _) _) _ _ _); refine halt ?_) | ((with_reducible show wpAny _ _ (eval (.Name _ _) _) _ _ _); k_here; k_dflt (refine' ld ?k1 ?k2 ?_; (case k1 => k_asm); (case k2 => first | with_reducible assumption | exact rfl | assumption); k_whole)) | walk1 | (dsimp only; with_reducible show wpAny _ _ (call (.ref _) _) _ _ _) | (dsimp only; walk1) | (leave1; (try dsimp only))))
    exact hret _ _ _ _ (by assumption) (by first | assumption | exact News.sub (by assumption) (by (first | (refine sub1 ?_; k_mem) | (refine sub2 ?_ ?_; k_mem; k_mem) | (refine sub3 ?_ ?_ ?_; k_mem; k_mem; k_mem) | ((repeat (refine' List.forall_mem_cons.mpr ⟨?_, ?_⟩; focus k_mem)); exact List.forall_mem_nil _)))) (Kept.of_frame hg' (by assumption)) ⟨_, rfl, _, _, _, _, _, _, _, _, _, _, rfl⟩
set_option maxHeartbeats 8000000 in
theorem letters_does (w : World) :
    Does w 1 8 Any 236 [] [] (fun r nx => nx = [] ∧ ∃ t, r = .str (Str.ofString "abcdefghijklmnopqrstuvwxyzABCDEFGHIJKLMNOPQRSTUVWXYZ0123456789") t) := by
  unfold Does
  intro mean mg mb dp un gd cn cs a ccd cl outer A₀ base h₀ L m s g₀ Q E B F X N T hk hP st dj hd hu hret
  refine wpAny_call ?_
  k_dflt (refine' enter (binds := []) ?k1 ?k2 ?k3 ?k4 ?k5 ?kA ?kF ?kK ?k6 ?k7 ?k8 ?k9 ?kB ?_ ?c2 ?c3 ?c4 ?c5; (case kA => exact rfl); (case kF => exact rfl); (case kK => assumption); (case k1 => k_asm); (case k2 => k_asm); (case k3 => k_asm); (case k4 => k_asm); (case k5 => k_asm); (case k6 => k_is); (case k7 => k_is); (case k8 => ktr_room); (case k9 => first | exact BindsTo.of_eq rfl | exact binds_K (by k_in) rfl (by k_is) rfl rfl rfl); (case c5 => decide); (case kB => exact locs rfl); (case c2 => exact rfl); (case c3 => exact rfl); (case c4 => exact rfl); k_whole; intro g' L' h' tk0 FG' F' N' B' X' T' hg'; (try dsimp only); (try k_fold); (try (refine letA ?_; intro Ak)))
  clear hP st dj
  (repeat' (first | (k_unfold; (try dsimp only)) | (k_end; kc_close) | ((with_reducible show wpAny _ _ (execs (_ :: _) _) _ _ _); (with_reducible refine wpAny_execs_cons ?_); first | k_fold | (try dsimp only)) | (k_closed; first | ((with_reducible refine ite_pos ?_ ?_); (focus (k_dflt decide))) | ((with_reducible refine ite_neg ?_ ?_); (focus (k_dflt decide)))) | ((with_reducible show wpAny _ _ (call (.ref _) _) _ _ _); first | ((with_reducible show wpAny _ _ (call (.ref 144) _) _ _ _); (k_dflt (refine' new_syn ?uB ?uF ?uX ?uN ?uT ?u1 ?u2 ?u3 ?ud ?_; walk_at "mine:c"; (obtain ⟨dxZ, h1Z, h2Z, h3Z, k1Z, k2Z, k3Z, t1Z, t3Z, mvZ, hnxZ⟩ := hSZ); subst hnxZ; walk_at "mine:f"))) | ((with_reducible show wpAny _ _ (call (.ref 153) _) _ _ _); (k_dflt (refine' Does.pureT (sorted_flags_does _ _) ?uB ?uF ?uX ?uN ?uT ?uk ?uP ?ust ?ud ?uu ?_; walk_at "mine:p"; k_whole; intro tZ hZ tkZ FZ NZ; (try k_sweep); (try dsimp only))))) | ((with_reducible show SrcG _ _ _ _ _ _ _ _ _ _); (refine halt ?_)) | ((with_reducible show wpAny _ _ (eval (.ListComp _ _ _ _) _) _ _ _); (k_here; k_dflt (refine ListComp_W (F₀ := by k_asm) (by with_unfolding_all rfl) (by decide) (by rfl) (by decide) (by rfl) ?_))) | ((with_reducible show wpAny _ _ (exec (.While _ _ _ _) _) _ _ _); refine halt ?_) | ((with_reducible show wpAny _ _ (exec (.For _ _ _ _ _) _) _ _ _); refine halt ?_) | ((with_reducible show wpAny _ _ (eval (.Name _ _) _) _ _ _); k_here; k_dflt (refine' ld ?k1 ?k2 ?_; (case k1 => k_asm); (case k2 => first | with_reducible assumption | exact rfl | assumption); k_whole)) | walk1 | (dsimp only; with_reducible show wpAny _ _ (call (.ref _) _) _ _ _) | (dsimp only; walk1) | (leave1; (try dsimp only))))
  exact hret _ _ _ _ (by assumption) (by first | assumption | exact News.nil) (Kept.of_frame hg' (by assumption)) ⟨rfl, _, rfl⟩
end
-- F5
noncomputable section
set_option maxRecDepth 100000

noncomputable def TabLed (w : World) (x : Addr) (nx : Led) : Prop := ∃ (dt rd : Addr) (h1 h2 : Int) (k1 k2 : Tok) (o : Obj), nx = [(x, instObj 225 dt), (dt, dictOf [⟨h1, .str (Str.ofString "parent") k1, .none⟩, ⟨h2, .str (Str.ofString "rows") k2, .ref rd⟩] 2), (rd, o)] ∧ RowsAre w o 0 none none none none ∧ (rd == sysModules) = false
set_option maxHeartbeats 4000000 in
theorem tab_init {w : World} {A A₀ : Around} {base h₀ : Heap} {outer : List Env} {env : Env} {L : Addr} {m : Str → Option Value} {s : Shared} {mean : ExcName → Option Value} {mg mb : Str → Option Value} {R : Result → Shared → Prop} {x dx : Addr} 
    (B : Below A₀ base outer h₀) (F : Fr h₀ L s.heap m) (X : (K w.params).In h₀) (N : News h₀ L s.heap [(x, instObj 225 dx), (dx, dictOf [] 0)]) (T : Tp mean mg mb h₀) (hA : A.frames = some (env :: outer)) (hf : env.frame = some L) (hke : env.scope.kind = .function) (hroom : A.depth < recursionLimit) (hlt : @LT.lt Nat _ dx x)
    (k : ∀ h' tk' nx, Fr h₀ L h' m → News h₀ L h' nx → Kept s.heap [(x, instObj 225 dx), (dx, dictOf [] 0)] h' → TabLed w x nx → R (.ok (.ret .none)) { s with heap := h', toks := tk' }) :
    codeAny (model Pg w) A (.call (.ref 173) ⟨[.ref x], []⟩) R s := by
  k_dflt (refine' enter (binds := [(Str.ofString "self", .ref x), (Str.ofString "parent", .none)]) ?k1 ?k2 ?k3 ?k4 ?k5 ?kA ?kF ?kK ?k6 ?k7 ?k8 ?k9 ?kB ?_ ?c2 ?c3 ?c4 ?c5; (case kA => assumption); (case kF => assumption); (case kK => assumption); (case k1 => k_asm); (case k2 => k_asm); (case k3 => k_asm); (case k4 => k_asm); (case k5 => k_asm); (case k6 => k_is); (case k7 => k_is); (case k8 => ktr_room); (case k9 => first | exact BindsTo.of_eq rfl | exact binds_K (by k_in) rfl (by k_is) rfl rfl rfl); (case c5 => decide); (case kB => exact locs rfl); (case c2 => exact rfl); (case c3 => exact rfl); (case c4 => exact rfl); k_whole; intro g' L' h' tk0 FG' F' N' B' X' T' hg'; (try dsimp only); (try k_fold); (try (refine letA ?_; intro Ak)))
  (repeat' (first | (k_unfold; (try dsimp only)) | (k_end; kc_close) | ((with_reducible show wpAny _ _ (execs (_ :: _) _) _ _ _); (with_reducible refine wpAny_execs_cons ?_); (try dsimp only)) | (k_closed; first | ((with_reducible refine ite_pos ?_ ?_); (focus (k_dflt decide))) | ((with_reducible refine ite_neg ?_ ?_); (focus (k_dflt decide)))) | ((with_reducible show wpAny _ _ (exec (.While _ _ _ _) _) _ _ _); refine halt ?_) | ((with_reducible show wpAny _ _ (exec (.For _ _ _ _ _) _) _ _ _); refine halt ?_) | ((with_reducible show wpAny _ _ (eval (.Name _ _) _) _ _ _); k_here; k_dflt (refine' ld ?k1 ?k2 ?_; (case k1 => k_asm); (case k2 => first | with_reducible assumption | exact rfl | assumption); k_whole)) | walk1 | (dsimp only; walk1) | (leave1; (try dsimp only))))
  refine' k _ _ [(x, instObj 225 dx), (dx, _), (_, _)] ?cF ?cN (Kept.of_frame hg' (by assumption)) ⟨_, _, _, _, _, _, _, rfl, ⟨[], ?cE, Nat.le_refl _, rfl, rfl, rfl, rfl⟩, ?cL⟩
  (case cF => assumption)
  (case cN => exact News.sub (by assumption) (by (first | (refine sub1 ?_; k_mem) | (refine sub2 ?_ ?_; k_mem; k_mem) | (refine sub3 ?_ ?_ ?_; k_mem; k_mem; k_mem) | ((repeat (refine' List.forall_mem_cons.mpr ⟨?_, ?_⟩; focus k_mem)); exact List.forall_mem_nil _))))
  (case cE => assumption)
  (case cL => assumption)
theorem new_tab {w : World} {A A₀ : Around} {base h₀ : Heap} {outer : List Env} {env : Env} {L : Addr} {m : Str → Option Value} {s : Shared} {mean : ExcName → Option Value} {mg mb : Str → Option Value} {Q E : Value → Shared → Prop} {news : Led} 
    (B : Below A₀ base outer h₀) (F : Fr h₀ L s.heap m) (X : (K w.params).In h₀) (N : News h₀ L s.heap news) (T : Tp mean mg mb h₀) (hA : A.frames = some (env :: outer)) (hf : env.frame = some L) (hke : env.scope.kind = .function) (hroom : A.depth + 1 < recursionLimit)
    (k : ∀ x h' tk' nx, Fr h₀ L h' m → News h₀ L h' (nx ++ news) → TabLed w x nx → Q (.ref x) { s with heap := h', toks := tk' }) :
    wpAny (model Pg w) A (call (.ref 225) []) Q E s := by
  refine call_cls F X N (by k_is) (by k_is) (by k_is) ?_
  intro x dx h' F' N' l1 l2
  have N2 : News h₀ L h' [(x, instObj 225 dx), (dx, dictOf [] 0)] := News.sub N' fun p hp => by
    rcases List.mem_cons.mp hp with rfl | hp
    · exact .head _
    · rcases List.mem_cons.mp hp with rfl | hp
      · exact .tail _ (.head _)
      · cases hp
  skip
  refine tab_init (s := { s with heap := h' }) B F' X N2 T hA hf hke (by first | ktr_room | (show A.depth + 1 < _; omega)) l2 fun h2 tk2 nx F2 Nx Kp hS => ?_
  refine ⟨rfl, k x h2 tk2 nx F2 (fun p hp => ?_) hS⟩
  rcases List.mem_append.mp hp with hp | hp
  · exact Nx p hp
  · have hN := N' p (.tail _ (.tail _ hp))
    have h1 := l1 p hp
    refine ⟨Kp _ _ hN.1 fun q hq z => ?_, hN.2⟩
    rcases List.mem_cons.mp hq with rfl | hq
    · have z' : x = p.1 := z
      rw [← z'] at h1
      exact Nat.lt_irrefl _ (Nat.lt_trans h1 l2)
    · rcases List.mem_cons.mp hq with rfl | hq
      · have z' : dx = p.1 := z
        rw [← z'] at h1
        exact Nat.lt_irrefl _ h1
      · cases hq
theorem read_syntax_some (w : World) (k : Str) (x : Str) (t : Tok) (h1 : (x == Str.ofString "") = false) (hl : x.length = 1 ∨ x.length = 2 ∧ (Txt.item x 1 == Str.ofString " ") = false) (hk : Txt.item x 0 = k) (h2 : (k == Str.ofString "-") = false)
    (h3 : (Builtin.Str.occurrences (Str.ofString " w_.()'\"\\/$<>@!|") k 0 (Str.ofString " w_.()'\"\\/$<>@!|").length 1).isEmpty = false) (hs : Txt.slice x (some 2) none = Str.ofString "") :
    Does w 3 24 Any 158 [.str x t] [] (fun r nx => ∃ y, r = .ref y ∧ SynLed k y nx) := by
  subst hk
  rcases hl with hl | ⟨hl, h4⟩
  · exact read_syntax_one w x t h1 hl h2 h3 hs
  · exact read_syntax_two w x t h1 hl h2 h4 h3 hs
theorem test1 (w : World) (t : Tok) : Does w 3 24 Any 158 [.str (Str.ofString "w") t] [] (fun r nx => ∃ y, r = .ref y ∧ SynLed (Str.ofString "w") y nx) := 
  read_syntax_some w _ _ t (by decide) (by decide) (by decide) (by decide) (by decide +kernel) (by decide +kernel)
theorem test2 (w : World) (t : Tok) : Does w 3 24 Any 158 [.str (Str.ofString "()") t] [] (fun r nx => ∃ y, r = .ref y ∧ SynLed (Str.ofString "(") y nx) := 
  read_syntax_some w _ _ t (by decide) (by decide) (by decide +kernel) (by decide) (by decide +kernel) (by decide +kernel)
theorem test3 : hasC (Str.ofString "abcdefghijklmnopqrstuvwxyzABCDEFGHIJKLMNOPQRSTUVWXYZ0123456789") 97 = true := by decide +kernel
end
-- F6
noncomputable section
set_option maxRecDepth 100000

noncomputable def IsSynObj (o : Obj) : Prop := (∃ d, o = instObj 144 d) ∨ ∃ (h1 : Int) (k1 : Tok) (v : Value) (r : List _) (n : Nat), o = dictOf (⟨h1, .str (Str.ofString "kind") k1, v⟩ :: r) n
noncomputable def SynOnly (l : Led) : Prop := ∀ p ∈ l, IsSynObj p.2
noncomputable def SynIn (l : Led) (k : Str) (x : Addr) : Prop :=
  ∃ (d : Addr) (h1 h2 h3 : Int) (k1 k2 k3 t1 t3 : Tok) (mv : Value), (x, instObj 144 d) ∈ l ∧ (d, dictOf [⟨h1, .str (Str.ofString "kind") k1, .str k t1⟩, ⟨h2, .str (Str.ofString "match") k2, mv⟩, ⟨h3, .str (Str.ofString "flags") k3, .str (Str.ofString "") t3⟩] 3) ∈ l
theorem synIn_mono {l l' : Led} {k : Str} {x : Addr} (h : ∀ p ∈ l, p ∈ l') (a : SynIn l k x) : SynIn l' k x := by
  obtain ⟨d, h1, h2, h3, k1, k2, k3, t1, t3, mv, m1, m2⟩ := a
  exact ⟨d, h1, h2, h3, k1, k2, k3, t1, t3, mv, h _ m1, h _ m2⟩
noncomputable def OptIn (l : Led) (f : Option (Addr × Str)) : Prop := ∀ p, f = some p → SynIn l p.2 p.1
abbrev rf (f : Option (Addr × Str)) : Option Value := f.map fun p => .ref p.1
noncomputable def TabOk (w : World) (o : Obj) (n : Nat) (old : Led) (a b c d : Option (Addr × Str)) : Prop := RowsAre w o n (rf a) (rf b) (rf c) (rf d) ∧ SynOnly old ∧ OptIn old a ∧ OptIn old b ∧ OptIn old c ∧ OptIn old d
theorem optIn_set {l l' : Led} {f : Option (Addr × Str)} {k : Str} {y : Addr} (b : Bool) (h : ∀ p ∈ l, p ∈ l') (hf : OptIn l f) (hy : SynIn l' k y) : OptIn l' (cond b (some (y, k)) f) := by
  intro p hp
  cases b
  · exact synIn_mono h (hf p hp)
  · cases hp; exact hy
theorem rf_cond (b : Bool) (y : Addr) (k : Str) (f : Option (Addr × Str)) : rf (cond b (some (y, k)) f) = cond b (some (.ref y)) (rf f) := by cases b <;> rfl
theorem synObj_notInt {w : World} {o : Obj} (h : IsSynObj o) : NotInt w o := by
  rcases h with ⟨d, rfl⟩ | ⟨h1, k1, v, r, n, rfl⟩
  · exact notInt_inst _ _ _
  · exact notInt_str _ _ _ _ _ _ _
theorem synObj_ne1 {o : Obj} {d : Addr} (h : IsSynObj o) (e : instObj 225 d = o) : False := by
  subst e
  rcases h with ⟨d', h⟩ | ⟨h1, k1, v, r, n, h⟩
  · have := congrArg Obj.cls h
    cases this
  · have := congrArg Obj.data h
    cases this
theorem synObj_ne2 {o : Obj} {h1 h2 : Int} {k1 k2 : Tok} {v1 v2 : Value} (h : IsSynObj o) (e : dictOf [⟨h1, .str (Str.ofString "parent") k1, v1⟩, ⟨h2, .str (Str.ofString "rows") k2, v2⟩] 2 = o) : False := by
  subst e
  rcases h with ⟨d', h⟩ | ⟨h3, k3, v, r, n, h⟩
  · have := congrArg Obj.data h
    cases this
  · have := congrArg Obj.data h
    injection this with q _
    injection q with q
    injection q with q _
    injection q with _ q _
    injection q with q _
    revert q
    decide
theorem syn_dis {w : World} {g h : Heap} {L tb dt rd : Addr} {old : Led} {o : Obj} {h1 h2 : Int} {k1 k2 : Tok} {n : Nat} {a b c d : Option Value} (N : News g L h ((tb, instObj 225 dt) :: (dt, dictOf [⟨h1, .str (Str.ofString "parent") k1, .none⟩, ⟨h2, .str (Str.ofString "rows") k2, .ref rd⟩] 2) :: (rd, o) :: old)) (hs : SynOnly old) (hr : RowsAre w o n a b c d) :
    ∀ p ∈ old, ∀ q ∈ [(tb, instObj 225 dt), (dt, dictOf [⟨h1, .str (Str.ofString "parent") k1, .none⟩, ⟨h2, .str (Str.ofString "rows") k2, .ref rd⟩] 2), (rd, o)], q.1 ≠ p.1 := by
  intro p hp q hq z
  have e1 := (N p (.tail _ (.tail _ (.tail _ hp)))).1
  have hs' := hs p hp
  obtain ⟨kvs, hd, _⟩ := hr
  rcases List.mem_cons.mp hq with rfl | hq
  · have e2 := (N _ (.head _)).1
    have z' : tb = p.1 := z
    rw [z', e1] at e2
    exact synObj_ne1 hs' (Option.some.inj e2).symm
  · rcases List.mem_cons.mp hq with rfl | hq
    · have e2 := (N _ (.tail _ (.head _))).1
      have z' : dt = p.1 := z
      have e3 : h.get? p.1 = some (dictOf [⟨h1, .str (Str.ofString "parent") k1, .none⟩, ⟨h2, .str (Str.ofString "rows") k2, .ref rd⟩] 2) := by rw [← z']; exact e2
      rw [e1] at e3
      exact synObj_ne2 hs' (Option.some.inj e3).symm
    · rcases List.mem_cons.mp hq with rfl | hq
      · have e2 := (N _ (.tail _ (.tail _ (.head _)))).1
        have z' : rd = p.1 := z
        have e3 : h.get? p.1 = some o := by rw [← z']; exact e2
        rw [e1] at e3
        exact synObj_notInt hs' kvs ((Option.some.inj e3).symm ▸ hd)
      · cases hq
theorem synLed_in {k : Str} {y : Addr} {nx : Led} (h : SynLed k y nx) : SynIn nx k y ∧ SynOnly nx := by
  obtain ⟨d, h1, h2, h3, k1, k2, k3, t1, t3, mv, rfl⟩ := h
  refine ⟨⟨d, h1, h2, h3, k1, k2, k3, t1, t3, mv, .head _, .tail _ (.head _)⟩, fun p hp => ?_⟩
  rcases List.mem_cons.mp hp with rfl | hp
  · exact .inl ⟨_, rfl⟩
  · rcases List.mem_cons.mp hp with rfl | hp
    · exact .inr ⟨_, _, _, _, _, rfl⟩
    · cases hp
theorem call_modifyA {w : World} {tb dt rd : Addr} {o : Obj} {n : Nat} {a b c d : Option (Addr × Str)} {text desc k : Str} {tt td k1 k2 : Tok} {h1 h2 : Int} {aux old : Led}
    {mean : ExcName → Option Value} {mg mb : Str → Option Value} {dp un : Nat} {gd : Option (List Code)} {cn : Str} {cs : Scope} {a' : Addr} {ccd : Value} {cl : List (Str × Addr)} {outer : List Env} {A₀ : Around} {base h₀ : Heap} {L : Addr} {m : Str → Option Value} {s : Shared} {Q E : Value → Shared → Prop}
    (B : Below A₀ base outer h₀) (F : Fr h₀ L s.heap m) (X : (K w.params).In h₀) (N : News h₀ L s.heap ((tb, instObj 225 dt) :: (dt, dictOf [⟨h1, .str (Str.ofString "parent") k1, .none⟩, ⟨h2, .str (Str.ofString "rows") k2, .ref rd⟩] 2) :: (rd, o) :: (aux ++ old))) (T : Tp mean mg mb h₀) (hk : cs.kind = .function)
    (hda : ∀ p ∈ aux, p.1 ≠ tb ∧ p.1 ≠ dt ∧ p.1 ≠ rd) (hro : TabOk w o n old a b c d) (hkv : n ≤ 1500) (hl : text.length ≤ 100) {e1 e2 e3 e4 : Bool} (q1 : hasC text 40 = e1) (q2 : hasC text 41 = e2) (q3 : hasC text 97 = e3) (q4 : hasC text 32 = e4)
    (D : Does w 3 24 Any 158 [.str desc td] [] (fun r nx => ∃ y, r = .ref y ∧ SynLed k y nx)) (hd : dp + 4 < recursionLimit) (hu : un + 40 < cLine)
    (kk : ∀ y o' old' h' tk', Fr h₀ L h' m → News h₀ L h' ((tb, instObj 225 dt) :: (dt, dictOf [⟨h1, .str (Str.ofString "parent") k1, .none⟩, ⟨h2, .str (Str.ofString "rows") k2, .ref rd⟩] 2) :: (rd, o') :: (aux ++ old')) →
      TabOk w o' (n + 100) old' (cond e1 (some (y, k)) a) (cond e2 (some (y, k)) b) (cond e3 (some (y, k)) c) (cond e4 (some (y, k)) d) → Q .none { s with heap := h', toks := tk' }) :
    wpAny (model Pg w) (ktrTop dp un gd cn cs L a' ccd cl outer) (call (.ref 187) [.ref tb, .str text tt, .str desc td]) Q E s := by
  obtain ⟨hr, hs, ha, hb, hc, hdd⟩ := hro
  refine Does.keep (rest := aux ++ old) (modify_all_rows w tb dt rd o n (rf a) (rf b) (rf c) (rf d) text desc k tt td k1 k2 h1 h2 hr hkv hl q1 q2 q3 q4 D) B F X N ?_ ?_ ?_ T hk (any_any _) hd hu ?_
  · intro p hp
    rcases List.mem_cons.mp hp with rfl | hp
    · exact .head _
    · rcases List.mem_cons.mp hp with rfl | hp
      · exact .tail _ (.head _)
      · rcases List.mem_cons.mp hp with rfl | hp
        · exact .tail _ (.tail _ (.head _))
        · cases hp
  · exact fun p hp => .tail _ (.tail _ (.tail _ hp))
  · have N0 : News h₀ L s.heap ((tb, instObj 225 dt) :: (dt, dictOf [⟨h1, .str (Str.ofString "parent") k1, .none⟩, ⟨h2, .str (Str.ofString "rows") k2, .ref rd⟩] 2) :: (rd, o) :: old) := fun p hp => by
      rcases List.mem_cons.mp hp with rfl | hp
      · exact N _ (.head _)
      · rcases List.mem_cons.mp hp with rfl | hp
        · exact N _ (.tail _ (.head _))
        · rcases List.mem_cons.mp hp with rfl | hp
          · exact N _ (.tail _ (.tail _ (.head _)))
          · exact N _ (.tail _ (.tail _ (.tail _ (List.mem_append_right _ hp))))
    intro p hp q hq z
    rcases List.mem_append.mp hp with hp | hp
    · obtain ⟨z1, z2, z3⟩ := hda p hp
      rcases List.mem_cons.mp hq with rfl | hq
      · exact z1 z.symm
      · rcases List.mem_cons.mp hq with rfl | hq
        · exact z2 z.symm
        · rcases List.mem_cons.mp hq with rfl | hq
          · exact z3 z.symm
          · cases hq
    · exact syn_dis N0 hs hr p hp q hq z
  · rintro r nx h' tk' F' N' N2 ⟨rfl, y, o', nxs, rfl, hS, hR⟩
    obtain ⟨hin, hso⟩ := synLed_in hS
    refine kk y o' (nxs ++ old) h' tk' F' (fun p hp => ?_) ⟨?_, fun p hp => (List.mem_append.mp hp).elim (hso p) (hs p), ?_, ?_, ?_, ?_⟩
    · rcases List.mem_cons.mp hp with rfl | hp
      · exact N' _ (List.mem_append_right _ (.head _))
      · rcases List.mem_cons.mp hp with rfl | hp
        · exact N' _ (List.mem_append_right _ (.tail _ (.head _)))
        · rcases List.mem_cons.mp hp with rfl | hp
          · exact N' _ (List.mem_append_right _ (.tail _ (.tail _ (.head _))))
          · rcases List.mem_append.mp hp with hp | hp
            · exact N2 p (List.mem_append_left _ hp)
            · exact (List.mem_append.mp hp).elim (fun z => N' _ (List.mem_append_left _ z)) (fun z => N2 p (List.mem_append_right _ z))
    · rw [rf_cond, rf_cond, rf_cond, rf_cond]; exact hR
    · exact optIn_set e1 (fun p hp => List.mem_append_right _ hp) ha (synIn_mono (fun p hp => List.mem_append_left _ hp) hin)
    · exact optIn_set e2 (fun p hp => List.mem_append_right _ hp) hb (synIn_mono (fun p hp => List.mem_append_left _ hp) hin)
    · exact optIn_set e3 (fun p hp => List.mem_append_right _ hp) hc (synIn_mono (fun p hp => List.mem_append_left _ hp) hin)
    · exact optIn_set e4 (fun p hp => List.mem_append_right _ hp) hdd (synIn_mono (fun p hp => List.mem_append_left _ hp) hin)
theorem call_modify {w : World} {tb dt rd : Addr} {o : Obj} {n : Nat} {a b c d : Option (Addr × Str)} {text desc k : Str} {tt td k1 k2 : Tok} {h1 h2 : Int} {old : Led}
    {mean : ExcName → Option Value} {mg mb : Str → Option Value} {dp un : Nat} {gd : Option (List Code)} {cn : Str} {cs : Scope} {a' : Addr} {ccd : Value} {cl : List (Str × Addr)} {outer : List Env} {A₀ : Around} {base h₀ : Heap} {L : Addr} {m : Str → Option Value} {s : Shared} {Q E : Value → Shared → Prop}
    (B : Below A₀ base outer h₀) (F : Fr h₀ L s.heap m) (X : (K w.params).In h₀) (N : News h₀ L s.heap ((tb, instObj 225 dt) :: (dt, dictOf [⟨h1, .str (Str.ofString "parent") k1, .none⟩, ⟨h2, .str (Str.ofString "rows") k2, .ref rd⟩] 2) :: (rd, o) :: old)) (T : Tp mean mg mb h₀) (hk : cs.kind = .function)
    (hro : TabOk w o n old a b c d) (hkv : n ≤ 1500) (hl : text.length ≤ 100) {e1 e2 e3 e4 : Bool} (q1 : hasC text 40 = e1) (q2 : hasC text 41 = e2) (q3 : hasC text 97 = e3) (q4 : hasC text 32 = e4)
    (D : Does w 3 24 Any 158 [.str desc td] [] (fun r nx => ∃ y, r = .ref y ∧ SynLed k y nx)) (hd : dp + 4 < recursionLimit) (hu : un + 40 < cLine)
    (kk : ∀ y o' old' h' tk', Fr h₀ L h' m → News h₀ L h' ((tb, instObj 225 dt) :: (dt, dictOf [⟨h1, .str (Str.ofString "parent") k1, .none⟩, ⟨h2, .str (Str.ofString "rows") k2, .ref rd⟩] 2) :: (rd, o') :: old') →
      TabOk w o' (n + 100) old' (cond e1 (some (y, k)) a) (cond e2 (some (y, k)) b) (cond e3 (some (y, k)) c) (cond e4 (some (y, k)) d) → Q .none { s with heap := h', toks := tk' }) :
    wpAny (model Pg w) (ktrTop dp un gd cn cs L a' ccd cl outer) (call (.ref 187) [.ref tb, .str text tt, .str desc td]) Q E s :=
  call_modifyA (aux := []) B F X N T hk (fun _ z => nomatch z) hro hkv hl q1 q2 q3 q4 D hd hu kk
theorem call_modify5 {w : World} {tb dt rd : Addr} {o : Obj} {n : Nat} {a b c d : Option (Addr × Str)} {text desc k : Str} {tt td k1 k2 : Tok} {h1 h2 : Int} {old : Led} {p1 p2 p3 p4 p5 : Addr × Obj}
    {mean : ExcName → Option Value} {mg mb : Str → Option Value} {dp un : Nat} {gd : Option (List Code)} {cn : Str} {cs : Scope} {a' : Addr} {ccd : Value} {cl : List (Str × Addr)} {outer : List Env} {A₀ : Around} {base h₀ : Heap} {L : Addr} {m : Str → Option Value} {s : Shared} {Q E : Value → Shared → Prop}
    (B : Below A₀ base outer h₀) (F : Fr h₀ L s.heap m) (X : (K w.params).In h₀) (N : News h₀ L s.heap ((tb, instObj 225 dt) :: (dt, dictOf [⟨h1, .str (Str.ofString "parent") k1, .none⟩, ⟨h2, .str (Str.ofString "rows") k2, .ref rd⟩] 2) :: (rd, o) :: p1 :: p2 :: p3 :: p4 :: p5 :: old)) (T : Tp mean mg mb h₀) (hk : cs.kind = .function)
    (hda : ∀ p ∈ [p1, p2, p3, p4, p5], p.1 ≠ tb ∧ p.1 ≠ dt ∧ p.1 ≠ rd) (hro : TabOk w o n old a b c d) (hkv : n ≤ 1500) (hl : text.length ≤ 100) {e1 e2 e3 e4 : Bool} (q1 : hasC text 40 = e1) (q2 : hasC text 41 = e2) (q3 : hasC text 97 = e3) (q4 : hasC text 32 = e4)
    (D : Does w 3 24 Any 158 [.str desc td] [] (fun r nx => ∃ y, r = .ref y ∧ SynLed k y nx)) (hd : dp + 4 < recursionLimit) (hu : un + 40 < cLine)
    (kk : ∀ y o' old' h' tk', Fr h₀ L h' m → News h₀ L h' ((tb, instObj 225 dt) :: (dt, dictOf [⟨h1, .str (Str.ofString "parent") k1, .none⟩, ⟨h2, .str (Str.ofString "rows") k2, .ref rd⟩] 2) :: (rd, o') :: p1 :: p2 :: p3 :: p4 :: p5 :: old') →
      TabOk w o' (n + 100) old' (cond e1 (some (y, k)) a) (cond e2 (some (y, k)) b) (cond e3 (some (y, k)) c) (cond e4 (some (y, k)) d) → Q .none { s with heap := h', toks := tk' }) :
    wpAny (model Pg w) (ktrTop dp un gd cn cs L a' ccd cl outer) (call (.ref 187) [.ref tb, .str text tt, .str desc td]) Q E s :=
  call_modifyA (aux := [p1, p2, p3, p4, p5]) B F X N T hk hda hro hkv hl q1 q2 q3 q4 D hd hu kk
theorem syn_iter {g h : Heap} {L I : Addr} {old led : Led} {oI : Obj} (N : News g L h led) (hs : SynOnly old) (sub : ∀ p ∈ old, p ∈ led) (hI : (I, oI) ∈ led) (hc : oI.cls = .type "tuple_iterator") : ∀ p ∈ old, p.1 ≠ I := by
  intro p hp z
  have e1 := (N p (sub p hp)).1
  rw [z, (N _ hI).1] at e1
  have e2 := Option.some.inj e1
  rcases hs p hp with ⟨d, q⟩ | ⟨_, _, _, _, _, q⟩
  · rw [← e2] at q; dsimp only at q; rw [q] at hc; cases hc
  · rw [← e2] at q; dsimp only at q; rw [q] at hc; injection hc with q'; revert q'; decide
end
-- F7
noncomputable section
set_option maxRecDepth 100000

theorem tab_start {w : World} {o : Obj} (h : RowsAre w o 0 none none none none) : TabOk w o 0 [] none none none none := by
  refine ⟨h, ?_, ?_, ?_, ?_, ?_⟩ <;> intro p hp <;> cases hp
noncomputable def IsF (f : Option (Addr × Str)) (k : Str) : Prop := ∃ y, f = some (y, k)
theorem IsF.of {y : Addr} {k k' : Str} (h : k = k') : IsF (some (y, k)) k' := by subst h; exact ⟨y, rfl⟩
noncomputable def JTab (w : World) (tb dt rd : Addr) (h1 h2 : Int) (k1 k2 : Tok) (p2 p3 p4 p5 : Addr × Obj) (i : Nat) (m : Str → Option Value) (news : Led) : Prop :=
  m (Str.ofString "table") = some (.ref tb) ∧ ∃ o old a b c d, news = (tb, instObj 225 dt) :: (dt, dictOf [⟨h1, .str (Str.ofString "parent") k1, .none⟩, ⟨h2, .str (Str.ofString "rows") k2, .ref rd⟩] 2) :: (rd, o) :: p2 :: p3 :: p4 :: p5 :: old ∧ TabOk w o (400 + 200 * i) old a b c d ∧
    IsF c (kd 97) ∧ IsF d (kd 32) ∧ (1 ≤ i → IsF a (kd 40) ∧ IsF b (kd 41))
theorem tab_loop {w : World} {A : Around} {E : Value → Shared → Prop} {s₁ : Shared} {h₀ : Heap} {m : Str → Option Value} {env : Env} {target : PySem.Expr} {body : List Stmt} {Q : Flow → Shared → Prop} {tb dt rd D : Addr} {h1 h2 : Int} {k1 k2 : Tok} {items : Array Value} {k : Nat} {p3 p4 p5 : Addr × Obj} {o : Obj} {old : Led} {a b c d : Option (Addr × Str)}
    (hh : A.handled = none) (F : Fr h₀ env.locals s₁.heap m) (N : News h₀ env.locals s₁.heap ((D, ({ cls := .type "tuple", data := .seq items k } : Obj)) :: p3 :: p4 :: p5 :: (tb, instObj 225 dt) :: (dt, dictOf [⟨h1, .str (Str.ofString "parent") k1, .none⟩, ⟨h2, .str (Str.ofString "rows") k2, .ref rd⟩] 2) :: (rd, o) :: old)) (hR : TabOk w o 400 old a b c d) (hc : IsF c (kd 97)) (hd : IsF d (kd 32)) (hm : m (Str.ofString "table") = some (.ref tb)) (hpp : ∀ p ∈ [(D, ({ cls := .type "tuple", data := .seq items k } : Obj)), p3, p4, p5], p.1 ≠ tb ∧ p.1 ≠ dt ∧ p.1 ≠ rd)
    (turn : ∀ i v m₁ o old a b c d h tk I oI, items[i]? = some v → oI.cls = .type "tuple_iterator" → m₁ (Str.ofString "table") = some (.ref tb) → TabOk w o (400 + 200 * i) old a b c d → IsF c (kd 97) → IsF d (kd 32) → (1 ≤ i → IsF a (kd 40) ∧ IsF b (kd 41)) →
      (∀ p ∈ [(I, oI), (D, ({ cls := .type "tuple", data := .seq items k } : Obj)), p3, p4, p5], p.1 ≠ tb ∧ p.1 ≠ dt ∧ p.1 ≠ rd) → (∀ p ∈ (tb, instObj 225 dt) :: (dt, dictOf [⟨h1, .str (Str.ofString "parent") k1, .none⟩, ⟨h2, .str (Str.ofString "rows") k2, .ref rd⟩] 2) :: (rd, o) :: (D, ({ cls := .type "tuple", data := .seq items k } : Obj)) :: p3 :: p4 :: p5 :: old, p.1 ≠ I) → Fr h₀ env.locals h m₁ → News h₀ env.locals h ((tb, instObj 225 dt) :: (dt, dictOf [⟨h1, .str (Str.ofString "parent") k1, .none⟩, ⟨h2, .str (Str.ofString "rows") k2, .ref rd⟩] 2) :: (rd, o) :: (I, oI) :: (D, ({ cls := .type "tuple", data := .seq items k } : Obj)) :: p3 :: p4 :: p5 :: old) →
      wpAny (model Pg w) A (assign target env v) (fun _ s₃ => wpAny (model Pg w) A (execs body env) (ForPost h₀ env.locals I oI (JTab w tb dt rd h1 h2 k1 k2 (D, ({ cls := .type "tuple", data := .seq items k } : Obj)) p3 p4 p5 (i + 1)) { s₁ with heap := h, toks := tk } Q) E s₃) E { s₁ with heap := h, toks := tk })
    (fin : ∀ h' tk m' o old a b c d, Fr h₀ env.locals h' m' → m' (Str.ofString "table") = some (.ref tb) → News h₀ env.locals h' ((tb, instObj 225 dt) :: (dt, dictOf [⟨h1, .str (Str.ofString "parent") k1, .none⟩, ⟨h2, .str (Str.ofString "rows") k2, .ref rd⟩] 2) :: (rd, o) :: old) → TabOk w o (400 + 200 * items.size) old a b c d → IsF c (kd 97) → IsF d (kd 32) → (1 ≤ items.size → IsF a (kd 40) ∧ IsF b (kd 41)) → Q .next { s₁ with heap := h', toks := tk }) :
    SrcT Pg w A h₀ env m target body Q E (.ref D) s₁ := by
  refine ⟨D, items, k, _, JTab w tb dt rd h1 h2 k1 k2 (D, ({ cls := .type "tuple", data := .seq items k } : Obj)) p3 p4 p5, rfl, hh, ?_, F, ?_, ⟨hm, o, old, a, b, c, d, rfl, hR, hc, hd, fun z => absurd z (by decide)⟩, ?_, ?_⟩
  · rintro i m' nw ⟨_, _, _, _, _, _, _, rfl, _⟩
    exact .tail _ (.tail _ (.tail _ (.head _)))
  · intro p hp
    rcases List.mem_cons.mp hp with rfl | hp
    · exact N _ (.tail _ (.tail _ (.tail _ (.tail _ (.head _)))))
    · rcases List.mem_cons.mp hp with rfl | hp
      · exact N _ (.tail _ (.tail _ (.tail _ (.tail _ (.tail _ (.head _))))))
      · rcases List.mem_cons.mp hp with rfl | hp
        · exact N _ (.tail _ (.tail _ (.tail _ (.tail _ (.tail _ (.tail _ (.head _)))))))
        · rcases List.mem_cons.mp hp with rfl | hp
          · exact N _ (.head _)
          · rcases List.mem_cons.mp hp with rfl | hp
            · exact N _ (.tail _ (.head _))
            · rcases List.mem_cons.mp hp with rfl | hp
              · exact N _ (.tail _ (.tail _ (.head _)))
              · rcases List.mem_cons.mp hp with rfl | hp
                · exact N _ (.tail _ (.tail _ (.tail _ (.head _))))
                · exact N _ (.tail _ (.tail _ (.tail _ (.tail _ (.tail _ (.tail _ (.tail _ hp)))))))
  · rintro i v m₁ _ h tk I oI hv hcI ⟨hm₁, o, old, a, b, c, d, rfl, hR, hc, hd, hab⟩ off F₁ N₁
    refine turn i v m₁ o old a b c d h tk I oI hv hcI hm₁ hR hc hd hab (fun p hp => ?_) off F₁ fun p hp => ?_
    · rcases List.mem_cons.mp hp with rfl | hp
      · exact ⟨fun z => off _ (.head _) z.symm, fun z => off _ (.tail _ (.head _)) z.symm, fun z => off _ (.tail _ (.tail _ (.head _))) z.symm⟩
      · exact hpp p hp
    rcases List.mem_cons.mp hp with rfl | hp
    · exact N₁ _ (.tail _ (.head _))
    · rcases List.mem_cons.mp hp with rfl | hp
      · exact N₁ _ (.tail _ (.tail _ (.head _)))
      · rcases List.mem_cons.mp hp with rfl | hp
        · exact N₁ _ (.tail _ (.tail _ (.tail _ (.head _))))
        · rcases List.mem_cons.mp hp with rfl | hp
          · exact N₁ _ (.head _)
          · exact N₁ _ (.tail _ (.tail _ (.tail _ (.tail _ hp))))
  · rintro h' tk m' _ F₁ N₁ ⟨hm₁, o, old, a, b, c, d, rfl, hR, hc, hd, hab⟩
    refine fin h' tk m' o old a b c d F₁ hm₁ (fun p hp => ?_) hR hc hd hab
    rcases List.mem_cons.mp hp with rfl | hp
    · exact N₁ _ (.head _)
    · rcases List.mem_cons.mp hp with rfl | hp
      · exact N₁ _ (.tail _ (.head _))
      · rcases List.mem_cons.mp hp with rfl | hp
        · exact N₁ _ (.tail _ (.tail _ (.head _)))
        · exact N₁ _ (.tail _ (.tail _ (.tail _ (.tail _ (.tail _ (.tail _ (.tail _ hp)))))))
/-- a turn's end -/
theorem tab_end {w : World} {s₁ : Shared} {g h' : Heap} {L I tb dt rd : Addr} {oI o' : Obj} {h1 h2 : Int} {k1 k2 : Tok} {p2 p3 p4 p5 : Addr × Obj} {Q : Flow → Shared → Prop} {m' : Str → Option Value} {old' : Led} {tk : Nat} {a b c d : Option (Addr × Str)} {i n : Nat}
    (F : Fr g L h' m') (N : News g L h' ((tb, instObj 225 dt) :: (dt, dictOf [⟨h1, .str (Str.ofString "parent") k1, .none⟩, ⟨h2, .str (Str.ofString "rows") k2, .ref rd⟩] 2) :: (rd, o') :: (I, oI) :: p2 :: p3 :: p4 :: p5 :: old')) (hcI : oI.cls = .type "tuple_iterator") (off : tb ≠ I ∧ dt ≠ I ∧ rd ≠ I ∧ p2.1 ≠ I ∧ p3.1 ≠ I ∧ p4.1 ≠ I ∧ p5.1 ≠ I) (hm : m' (Str.ofString "table") = some (.ref tb)) (hR : TabOk w o' n old' a b c d) (hn : n = 400 + 200 * (i + 1))
    (hc : IsF c (kd 97)) (hd : IsF d (kd 32)) (ha : IsF a (kd 40)) (hb : IsF b (kd 41)) : ForPost g L I oI (JTab w tb dt rd h1 h2 k1 k2 p2 p3 p4 p5 (i + 1)) s₁ Q .next { s₁ with heap := h', toks := tk } := by
  subst hn
  obtain ⟨o1, o2, o3, o4, o5, o6, o7⟩ := off
  refine ⟨h', tk, m', (tb, instObj 225 dt) :: (dt, dictOf [⟨h1, .str (Str.ofString "parent") k1, .none⟩, ⟨h2, .str (Str.ofString "rows") k2, .ref rd⟩] 2) :: (rd, o') :: p2 :: p3 :: p4 :: p5 :: old', rfl, F, fun p hp => ?_, fun p hp => ?_, hm, o', old', a, b, c, d, rfl, hR, hc, hd, fun _ => ⟨ha, hb⟩⟩
  · rcases List.mem_cons.mp hp with rfl | hp
    · exact N _ (.tail _ (.tail _ (.tail _ (.head _))))
    · rcases List.mem_cons.mp hp with rfl | hp
      · exact N _ (.head _)
      · rcases List.mem_cons.mp hp with rfl | hp
        · exact N _ (.tail _ (.head _))
        · rcases List.mem_cons.mp hp with rfl | hp
          · exact N _ (.tail _ (.tail _ (.head _)))
          · exact N _ (.tail _ (.tail _ (.tail _ (.tail _ hp))))
  · rcases List.mem_cons.mp hp with rfl | hp
    · exact o1
    · rcases List.mem_cons.mp hp with rfl | hp
      · exact o2
      · rcases List.mem_cons.mp hp with rfl | hp
        · exact o3
        · rcases List.mem_cons.mp hp with rfl | hp
          · exact o4
          · rcases List.mem_cons.mp hp with rfl | hp
            · exact o5
            · rcases List.mem_cons.mp hp with rfl | hp
              · exact o6
              · rcases List.mem_cons.mp hp with rfl | hp
                · exact o7
                · exact syn_iter N hR.2.1 (fun p hp => .tail _ (.tail _ (.tail _ (.tail _ (.tail _ (.tail _ (.tail _ (.tail _ hp)))))))) (.tail _ (.tail _ (.tail _ (.head _)))) hcI p hp
theorem synIn_is {g h : Heap} {L : Addr} {l : Led} {k : Str} {x : Addr} (N : News g L h l) (a : SynIn l k x) : IsSyn k x h := by
  obtain ⟨d, h1, h2, h3, k1, k2, k3, t1, t3, mv, m1, m2⟩ := a
  exact ⟨d, h1, h2, h3, k1, k2, k3, t1, t3, mv, ⟨(N _ m1).1, rfl, rfl, (N _ m2).1⟩⟩
theorem synObj_noList {o : Obj} (h : IsSynObj o) : o.cls ≠ .type "list" ∧ ∀ v, o.data ≠ .cell v := by
  rcases h with ⟨d, rfl⟩ | ⟨_, _, _, _, _, rfl⟩
  · exact ⟨(by intro q; cases q), (by intro v q; cases q)⟩
  · exact ⟨(by intro q; injection q with q'; revert q'; decide), (by intro v q; cases q)⟩
noncomputable def TabDone (w : World) (t : Addr) (nx : Led) : Prop := ∃ x40 x41 x97 x32, (∀ v g L h, News g L h nx → IsTable w ⟨v, t, x40, x41, x97, x32⟩ h) ∧ ∀ p ∈ nx, p.2.cls ≠ .type "list" ∧ ∀ v, p.2.data ≠ .cell v
theorem tab_done {w : World} {o : Obj} {n : Nat} {old : Led} {a b c d : Option (Addr × Str)} {tb dt rd : Addr} {h1 h2 : Int} {k1 k2 : Tok} (hR : TabOk w o n old a b c d) (hc : IsF c (kd 97)) (hd : IsF d (kd 32)) (ha : IsF a (kd 40)) (hb : IsF b (kd 41)) (lo : (rd == sysModules) = false) :
    TabDone w tb ((tb, instObj 225 dt) :: (dt, dictOf [⟨h1, .str (Str.ofString "parent") k1, .none⟩, ⟨h2, .str (Str.ofString "rows") k2, .ref rd⟩] 2) :: (rd, o) :: old) := by
  obtain ⟨⟨kvs, hdo, _, r1, r2, r3, r4⟩, hold, s1, s2, s3, s4⟩ := hR
  obtain ⟨y1, rfl⟩ := ha
  obtain ⟨y2, rfl⟩ := hb
  obtain ⟨y3, rfl⟩ := hc
  obtain ⟨y4, rfl⟩ := hd
  refine ⟨y1, y2, y3, y4, ?_, ?_⟩
  rotate_left
  · intro p hp
    rcases List.mem_cons.mp hp with rfl | hp
    · exact ⟨(by intro q; cases q), (by intro v q; cases q)⟩
    · rcases List.mem_cons.mp hp with rfl | hp
      · exact ⟨(by intro q; injection q with q'; revert q'; decide), (by intro v q; cases q)⟩
      · rcases List.mem_cons.mp hp with rfl | hp
        · obtain ⟨_, _, hx, hdat, _⟩ := hdo
          refine ⟨fun q => ?_, fun v q => ?_⟩
          · have q1 := hx.1
            rw [q] at q1
            injection q1 with q'; revert q'; decide
          · rw [hdat] at q
            cases q
        · exact synObj_noList (hold p hp)
  refine fun v g L h N => ⟨dt, rd, h1, h2, k1, k2, _, ⟨(N _ (.head _)).1, rfl, rfl, (N _ (.tail _ (.head _))).1⟩, (Heap.dictOf_iff.mpr ⟨o, (N _ (.tail _ (.tail _ (.head _)))).1, hdo⟩ : h.DictOf (intKind Pg w) rd kvs).mapOf, lo, ?_⟩
  have N' : News g L h old := fun p hp => N p (.tail _ (.tail _ (.tail _ hp)))
  rintro c (rfl | rfl | rfl | rfl)
  · exact ⟨by unfold Ar.syn; exact r1, by unfold Ar.syn; exact synIn_is N' (s1 _ rfl)⟩
  · exact ⟨by unfold Ar.syn; exact r2, by unfold Ar.syn; exact synIn_is N' (s2 _ rfl)⟩
  · exact ⟨by unfold Ar.syn; exact r3, by unfold Ar.syn; exact synIn_is N' (s3 _ rfl)⟩
  · exact ⟨by unfold Ar.syn; exact r4, by unfold Ar.syn; exact synIn_is N' (s4 _ rfl)⟩
set_option maxHeartbeats 16000000 in
theorem standard_table_does (w : World) :
    Does w 5 60 Any 243 [] [] (fun r nx => ∃ t, r = .ref t ∧ TabDone w t nx) := by
  unfold Does
  intro mean mg mb dp un gd cn cs a ccd cl outer A₀ base h₀ L m s g₀ Q E B F X N T hk hP st dj hd hu hret
  refine wpAny_call ?_
  k_dflt (refine' enter (binds := []) ?k1 ?k2 ?k3 ?k4 ?k5 ?kA ?kF ?kK ?k6 ?k7 ?k8 ?k9 ?kB ?_ ?c2 ?c3 ?c4 ?c5; (case kA => exact rfl); (case kF => exact rfl); (case kK => assumption); (case k1 => k_asm); (case k2 => k_asm); (case k3 => k_asm); (case k4 => k_asm); (case k5 => k_asm); (case k6 => k_is); (case k7 => k_is); (case k8 => ktr_room); (case k9 => first | exact BindsTo.of_eq rfl | exact binds_K (by k_in) rfl (by k_is) rfl rfl rfl); (case c5 => decide); (case kB => exact locs rfl); (case c2 => exact rfl); (case c3 => exact rfl); (case c4 => exact rfl); k_whole; intro g' L' h' tk0 FG' F' N' B' X' T' hg'; (try dsimp only); (try k_fold); (try (refine letA ?_; intro Ak)))
  clear hP st dj
  (repeat' (first | (k_unfold; (try dsimp only)) | (k_end; kc_close) | ((with_reducible show wpAny _ _ (execs (_ :: _) _) _ _ _); (with_reducible refine wpAny_execs_cons ?_); first | k_fold | (try dsimp only)) | (k_closed; first | ((with_reducible refine ite_pos ?_ ?_); (focus (k_dflt decide))) | ((with_reducible refine ite_neg ?_ ?_); (focus (k_dflt decide)))) | ((with_reducible show wpAny _ _ (call (.ref _) _) _ _ _); first | ((with_reducible show wpAny _ _ (call (.ref 187) _) _ _ _); (k_dflt (refine' call_modify5 ?uB ?uF ?uX ?uN ?uT ?uk ?ua ?ur ?u1 ?u2 ?q1 ?q2 ?q3 ?q4 (read_syntax_some _ _ _ _ (by decide +kernel) (by first | exact Or.inl (by decide +kernel) | exact Or.inr (by decide +kernel)) rfl (by decide +kernel) (by decide +kernel) (by decide +kernel)) ?ud ?uu ?_; (case uB => k_asm); (case uF => k_asm); (case uX => k_asm); (case uN => k_asm); (case uT => k_asm); (case uk => exact rfl); (case ua => assumption); (case ur => assumption); (case u1 => exact Nat.le_of_ble_eq_true rfl); (case u2 => decide +kernel); (case q1 => first | ((show hasC _ 40 = true); decide +kernel) | ((show hasC _ 40 = false); decide +kernel)); (case q2 => first | ((show hasC _ 41 = true); decide +kernel) | ((show hasC _ 41 = false); decide +kernel)); (case q3 => first | ((show hasC _ 97 = true); decide +kernel) | ((show hasC _ 97 = false); decide +kernel)); (case q4 => first | ((show hasC _ 32 = true); decide +kernel) | ((show hasC _ 32 = false); decide +kernel)); (case ud => ktr_room); (case uu => ktr_units); k_whole; intro yZ oZ oldZ hZ tkZ FZ NZ hRZ; (try dsimp only [cond] at hRZ); (try dsimp only)))) | ((with_reducible show wpAny _ _ (call (.ref 187) _) _ _ _); (k_dflt (refine' call_modify ?uB ?uF ?uX ?uN ?uT ?uk ?ur ?u1 ?u2 ?q1 ?q2 ?q3 ?q4 (read_syntax_some _ _ _ _ (by decide +kernel) (by first | exact Or.inl (by decide +kernel) | exact Or.inr (by decide +kernel)) rfl (by decide +kernel) (by decide +kernel) (by decide +kernel)) ?ud ?uu ?_; (case uB => k_asm); (case uF => k_asm); (case uX => k_asm); (case uN => k_asm); (case uT => k_asm); (case uk => exact rfl); (case ur => assumption); (case u1 => exact Nat.le_of_ble_eq_true rfl); (case u2 => decide +kernel); (case q1 => first | ((show hasC _ 40 = true); decide +kernel) | ((show hasC _ 40 = false); decide +kernel)); (case q2 => first | ((show hasC _ 41 = true); decide +kernel) | ((show hasC _ 41 = false); decide +kernel)); (case q3 => first | ((show hasC _ 97 = true); decide +kernel) | ((show hasC _ 97 = false); decide +kernel)); (case q4 => first | ((show hasC _ 32 = true); decide +kernel) | ((show hasC _ 32 = false); decide +kernel)); (case ud => ktr_room); (case uu => ktr_units); k_whole; intro yZ oZ oldZ hZ tkZ FZ NZ hRZ; (try dsimp only [cond] at hRZ); (try dsimp only)))) | ((with_reducible show wpAny _ _ (call (.ref 236) _) _ _ _); (k_dflt (refine' Does.nil (letters_does _) ?uB ?uF ?uX ?uN ?uT ?uk ?uP ?ud ?uu ?_; walk_at "mine:n"; k_whole; intro rZ nxZ hZ tkZ FZ NZ hrZ; (try dsimp only at hrZ); ((obtain ⟨hn9, t9, hr9⟩ := hrZ); subst hn9; subst hr9); walk_at "mine:f"))) | ((with_reducible show wpAny _ _ (call (.ref 225) _) _ _ _); (k_dflt (refine' new_tab ?uB ?uF ?uX ?uN ?uT ?u1 ?u2 ?u3 ?ud ?_; walk_at "mine:c"; (obtain ⟨dtZ, rdZ, h1Z, h2Z, k1Z, k2Z, oZ, hn9, hR9, loZ⟩ := hSZ); subst hn9; have hRZ := tab_start hR9; clear hR9; walk_at "mine:f")))) | ((with_reducible show wpAny _ _ (exec (.For _ _ _ _ _) _) _ _ _); (refine halt ?_)) | ((with_reducible show wpAny _ _ (exec (.For _ _ _ _ _) _) _ _ _); (refine halt ?_)) | ((with_reducible show wpAny _ _ (exec (.For _ _ _ _ _) _) _ _ _); (refine halt ?_)) | ((with_reducible show wpAny _ _ (exec (.For _ _ _ _ _) _) _ _ _); (refine halt ?_)) | ((with_reducible show wpAny _ _ (exec (.While _ _ _ _) _) _ _ _); refine halt ?_) | ((with_reducible show wpAny _ _ (exec (.For _ _ _ _ _) _) _ _ _); refine halt ?_) | ((with_reducible show wpAny _ _ (eval (.Name _ _) _) _ _ _); k_here; k_dflt (refine' ld ?k1 ?k2 ?_; (case k1 => k_asm); (case k2 => first | with_reducible assumption | exact rfl | assumption); k_whole)) | walk1 | (dsimp only; with_reducible show wpAny _ _ (call (.ref _) _) _ _ _) | (dsimp only; walk1) | (leave1; (try dsimp only))))
  refine unhalt ?_
  refine For_T (F₀ := by assumption) ?_
  (repeat' (first | (k_unfold; (try dsimp only)) | (k_end; kc_close) | ((with_reducible show wpAny _ _ (execs (_ :: _) _) _ _ _); (with_reducible refine wpAny_execs_cons ?_); first | k_fold | (try dsimp only)) | (k_closed; first | ((with_reducible refine ite_pos ?_ ?_); (focus (k_dflt decide))) | ((with_reducible refine ite_neg ?_ ?_); (focus (k_dflt decide)))) | ((with_reducible show wpAny _ _ (call (.ref _) _) _ _ _); first | ((with_reducible show wpAny _ _ (call (.ref 187) _) _ _ _); (k_dflt (refine' call_modify5 ?uB ?uF ?uX ?uN ?uT ?uk ?ua ?ur ?u1 ?u2 ?q1 ?q2 ?q3 ?q4 (read_syntax_some _ _ _ _ (by decide +kernel) (by first | exact Or.inl (by decide +kernel) | exact Or.inr (by decide +kernel)) rfl (by decide +kernel) (by decide +kernel) (by decide +kernel)) ?ud ?uu ?_; (case uB => k_asm); (case uF => k_asm); (case uX => k_asm); (case uN => k_asm); (case uT => k_asm); (case uk => exact rfl); (case ua => assumption); (case ur => assumption); (case u1 => exact Nat.le_of_ble_eq_true rfl); (case u2 => decide +kernel); (case q1 => first | ((show hasC _ 40 = true); decide +kernel) | ((show hasC _ 40 = false); decide +kernel)); (case q2 => first | ((show hasC _ 41 = true); decide +kernel) | ((show hasC _ 41 = false); decide +kernel)); (case q3 => first | ((show hasC _ 97 = true); decide +kernel) | ((show hasC _ 97 = false); decide +kernel)); (case q4 => first | ((show hasC _ 32 = true); decide +kernel) | ((show hasC _ 32 = false); decide +kernel)); (case ud => ktr_room); (case uu => ktr_units); k_whole; intro yZ oZ oldZ hZ tkZ FZ NZ hRZ; (try dsimp only [cond] at hRZ); (try dsimp only)))) | ((with_reducible show wpAny _ _ (call (.ref 187) _) _ _ _); (k_dflt (refine' call_modify ?uB ?uF ?uX ?uN ?uT ?uk ?ur ?u1 ?u2 ?q1 ?q2 ?q3 ?q4 (read_syntax_some _ _ _ _ (by decide +kernel) (by first | exact Or.inl (by decide +kernel) | exact Or.inr (by decide +kernel)) rfl (by decide +kernel) (by decide +kernel) (by decide +kernel)) ?ud ?uu ?_; (case uB => k_asm); (case uF => k_asm); (case uX => k_asm); (case uN => k_asm); (case uT => k_asm); (case uk => exact rfl); (case ur => assumption); (case u1 => exact Nat.le_of_ble_eq_true rfl); (case u2 => decide +kernel); (case q1 => first | ((show hasC _ 40 = true); decide +kernel) | ((show hasC _ 40 = false); decide +kernel)); (case q2 => first | ((show hasC _ 41 = true); decide +kernel) | ((show hasC _ 41 = false); decide +kernel)); (case q3 => first | ((show hasC _ 97 = true); decide +kernel) | ((show hasC _ 97 = false); decide +kernel)); (case q4 => first | ((show hasC _ 32 = true); decide +kernel) | ((show hasC _ 32 = false); decide +kernel)); (case ud => ktr_room); (case uu => ktr_units); k_whole; intro yZ oZ oldZ hZ tkZ FZ NZ hRZ; (try dsimp only [cond] at hRZ); (try dsimp only)))) | ((with_reducible show wpAny _ _ (call (.ref 236) _) _ _ _); (k_dflt (refine' Does.nil (letters_does _) ?uB ?uF ?uX ?uN ?uT ?uk ?uP ?ud ?uu ?_; walk_at "mine:n"; k_whole; intro rZ nxZ hZ tkZ FZ NZ hrZ; (try dsimp only at hrZ); ((obtain ⟨hn9, t9, hr9⟩ := hrZ); subst hn9; subst hr9); walk_at "mine:f"))) | ((with_reducible show wpAny _ _ (call (.ref 225) _) _ _ _); (k_dflt (refine' new_tab ?uB ?uF ?uX ?uN ?uT ?u1 ?u2 ?u3 ?ud ?_; walk_at "mine:c"; (obtain ⟨dtZ, rdZ, h1Z, h2Z, k1Z, k2Z, oZ, hn9, hR9, loZ⟩ := hSZ); subst hn9; have hRZ := tab_start hR9; clear hR9; walk_at "mine:f")))) | ((with_reducible show wpAny _ _ (exec (.For _ _ _ _ _) _) _ _ _); (refine halt ?_)) | ((with_reducible show wpAny _ _ (exec (.For _ _ _ _ _) _) _ _ _); (refine halt ?_)) | ((with_reducible show wpAny _ _ (exec (.For _ _ _ _ _) _) _ _ _); (refine halt ?_)) | ((with_reducible show wpAny _ _ (exec (.For _ _ _ _ _) _) _ _ _); (refine halt ?_)) | ((with_reducible show wpAny _ _ (exec (.While _ _ _ _) _) _ _ _); refine halt ?_) | ((with_reducible show wpAny _ _ (exec (.For _ _ _ _ _) _) _ _ _); refine halt ?_) | ((with_reducible show wpAny _ _ (eval (.Name _ _) _) _ _ _); k_here; k_dflt (refine' ld ?k1 ?k2 ?_; (case k1 => k_asm); (case k2 => first | with_reducible assumption | exact rfl | assumption); k_whole)) | walk1 | (dsimp only; with_reducible show wpAny _ _ (call (.ref _) _) _ _ _) | (dsimp only; walk1) | (leave1; (try dsimp only))))
  refine tab_loop (by rfl) (by assumption) (by assumption) (by assumption) (IsF.of (by decide +kernel)) (IsF.of (by decide +kernel)) (by rfl) ?_ ?_ ?_
  · intro p hp
    simp only [List.mem_cons, List.mem_nil_iff, or_false] at hp
    rcases hp with rfl | rfl | rfl | rfl <;> refine ⟨?_, ?_, ?_⟩ <;> k_ne
  · intro i v m₁ o old a b c d h tk I oI hv hcI hm₁ hR hc hd hab hda off F₁ N₁
    have o1 : @Ne Nat _ _ := off _ (.head _)
    have o2 : @Ne Nat _ _ := off _ (.tail _ (.head _))
    have o3 : @Ne Nat _ _ := off _ (.tail _ (.tail _ (.head _)))
    have o4 : @Ne Nat _ _ := off _ (.tail _ (.tail _ (.tail _ (.head _))))
    have o5 : @Ne Nat _ _ := off _ (.tail _ (.tail _ (.tail _ (.tail _ (.head _)))))
    have o6 : @Ne Nat _ _ := off _ (.tail _ (.tail _ (.tail _ (.tail _ (.tail _ (.head _))))))
    have o7 : @Ne Nat _ _ := off _ (.tail _ (.tail _ (.tail _ (.tail _ (.tail _ (.tail _ (.head _)))))))
    clear off
    dsimp only at o1 o2 o3 o4 o5 o6 o7
    have hi : i = 0 ∨ i = 1 ∨ i = 2 := by
      have := (Array.getElem?_eq_some_iff.mp hv).1
      have h3 : i < 3 := this
      omega
    rcases hi with rfl | rfl | rfl
    all_goals (lcg_open hv)
    all_goals ((repeat' (first | (k_unfold; (try dsimp only)) | (k_end; kc_close) | ((with_reducible show wpAny _ _ (execs (_ :: _) _) _ _ _); (with_reducible refine wpAny_execs_cons ?_); first | k_fold | (try dsimp only)) | (k_closed; first | ((with_reducible refine ite_pos ?_ ?_); (focus (k_dflt decide))) | ((with_reducible refine ite_neg ?_ ?_); (focus (k_dflt decide)))) | ((with_reducible show wpAny _ _ (call (.ref _) _) _ _ _); first | ((with_reducible show wpAny _ _ (call (.ref 187) _) _ _ _); (k_dflt (refine' call_modify5 ?uB ?uF ?uX ?uN ?uT ?uk ?ua ?ur ?u1 ?u2 ?q1 ?q2 ?q3 ?q4 (read_syntax_some _ _ _ _ (by decide +kernel) (by first | exact Or.inl (by decide +kernel) | exact Or.inr (by decide +kernel)) rfl (by decide +kernel) (by decide +kernel) (by decide +kernel)) ?ud ?uu ?_; (case uB => k_asm); (case uF => k_asm); (case uX => k_asm); (case uN => k_asm); (case uT => k_asm); (case uk => exact rfl); (case ua => assumption); (case ur => assumption); (case u1 => exact Nat.le_of_ble_eq_true rfl); (case u2 => decide +kernel); (case q1 => first | ((show hasC _ 40 = true); decide +kernel) | ((show hasC _ 40 = false); decide +kernel)); (case q2 => first | ((show hasC _ 41 = true); decide +kernel) | ((show hasC _ 41 = false); decide +kernel)); (case q3 => first | ((show hasC _ 97 = true); decide +kernel) | ((show hasC _ 97 = false); decide +kernel)); (case q4 => first | ((show hasC _ 32 = true); decide +kernel) | ((show hasC _ 32 = false); decide +kernel)); (case ud => ktr_room); (case uu => ktr_units); k_whole; intro yZ oZ oldZ hZ tkZ FZ NZ hRZ; (try dsimp only [cond] at hRZ); (try dsimp only)))) | ((with_reducible show wpAny _ _ (call (.ref 187) _) _ _ _); (k_dflt (refine' call_modify ?uB ?uF ?uX ?uN ?uT ?uk ?ur ?u1 ?u2 ?q1 ?q2 ?q3 ?q4 (read_syntax_some _ _ _ _ (by decide +kernel) (by first | exact Or.inl (by decide +kernel) | exact Or.inr (by decide +kernel)) rfl (by decide +kernel) (by decide +kernel) (by decide +kernel)) ?ud ?uu ?_; (case uB => k_asm); (case uF => k_asm); (case uX => k_asm); (case uN => k_asm); (case uT => k_asm); (case uk => exact rfl); (case ur => assumption); (case u1 => exact Nat.le_of_ble_eq_true rfl); (case u2 => decide +kernel); (case q1 => first | ((show hasC _ 40 = true); decide +kernel) | ((show hasC _ 40 = false); decide +kernel)); (case q2 => first | ((show hasC _ 41 = true); decide +kernel) | ((show hasC _ 41 = false); decide +kernel)); (case q3 => first | ((show hasC _ 97 = true); decide +kernel) | ((show hasC _ 97 = false); decide +kernel)); (case q4 => first | ((show hasC _ 32 = true); decide +kernel) | ((show hasC _ 32 = false); decide +kernel)); (case ud => ktr_room); (case uu => ktr_units); k_whole; intro yZ oZ oldZ hZ tkZ FZ NZ hRZ; (try dsimp only [cond] at hRZ); (try dsimp only)))) | ((with_reducible show wpAny _ _ (call (.ref 236) _) _ _ _); (k_dflt (refine' Does.nil (letters_does _) ?uB ?uF ?uX ?uN ?uT ?uk ?uP ?ud ?uu ?_; walk_at "mine:n"; k_whole; intro rZ nxZ hZ tkZ FZ NZ hrZ; (try dsimp only at hrZ); ((obtain ⟨hn9, t9, hr9⟩ := hrZ); subst hn9; subst hr9); walk_at "mine:f"))) | ((with_reducible show wpAny _ _ (call (.ref 225) _) _ _ _); (k_dflt (refine' new_tab ?uB ?uF ?uX ?uN ?uT ?u1 ?u2 ?u3 ?ud ?_; walk_at "mine:c"; (obtain ⟨dtZ, rdZ, h1Z, h2Z, k1Z, k2Z, oZ, hn9, hR9, loZ⟩ := hSZ); subst hn9; have hRZ := tab_start hR9; clear hR9; walk_at "mine:f")))) | ((with_reducible show wpAny _ _ (exec (.For _ _ _ _ _) _) _ _ _); (refine halt ?_)) | ((with_reducible show wpAny _ _ (exec (.For _ _ _ _ _) _) _ _ _); (refine halt ?_)) | ((with_reducible show wpAny _ _ (exec (.For _ _ _ _ _) _) _ _ _); (refine halt ?_)) | ((with_reducible show wpAny _ _ (exec (.For _ _ _ _ _) _) _ _ _); (refine halt ?_)) | ((with_reducible show wpAny _ _ (exec (.While _ _ _ _) _) _ _ _); refine halt ?_) | ((with_reducible show wpAny _ _ (exec (.For _ _ _ _ _) _) _ _ _); refine halt ?_) | ((with_reducible show wpAny _ _ (eval (.Name _ _) _) _ _ _); k_here; k_dflt (refine' ld ?k1 ?k2 ?_; (case k1 => k_asm); (case k2 => first | with_reducible assumption | exact rfl | assumption); k_whole)) | walk1 | (dsimp only; with_reducible show wpAny _ _ (call (.ref _) _) _ _ _) | (dsimp only; walk1) | (leave1; (try dsimp only)))))
    · refine' tab_end ?eF ?eN hcI ⟨o1, o2, o3, o4, o5, o6, o7⟩ ?em ?eR rfl hc hd ?ea ?eb
      (case eF => assumption)
      (case eN => assumption)
      (case em => exact hm₁)
      (case eR => assumption)
      (case ea => exact IsF.of (by decide +kernel))
      (case eb => exact IsF.of (by decide +kernel))
    all_goals (refine' tab_end ?eF ?eN hcI ⟨o1, o2, o3, o4, o5, o6, o7⟩ ?em ?eR rfl hc hd (hab (by decide)).1 (hab (by decide)).2; (case eF => assumption); (case eN => assumption); (case em => exact hm₁); (case eR => assumption))
  · intro h' tk m' o old a b c d F₁ hm₁ N₁ hR hc hd hab
    have hR' : TabOk w o 1000 old a b c d := hR
    clear hR
    (repeat' (first | (k_unfold; (try dsimp only)) | (k_end; kc_close) | ((with_reducible show wpAny _ _ (execs (_ :: _) _) _ _ _); (with_reducible refine wpAny_execs_cons ?_); first | k_fold | (try dsimp only)) | (k_closed; first | ((with_reducible refine ite_pos ?_ ?_); (focus (k_dflt decide))) | ((with_reducible refine ite_neg ?_ ?_); (focus (k_dflt decide)))) | ((with_reducible show wpAny _ _ (call (.ref _) _) _ _ _); first | ((with_reducible show wpAny _ _ (call (.ref 187) _) _ _ _); (k_dflt (refine' call_modify5 ?uB ?uF ?uX ?uN ?uT ?uk ?ua ?ur ?u1 ?u2 ?q1 ?q2 ?q3 ?q4 (read_syntax_some _ _ _ _ (by decide +kernel) (by first | exact Or.inl (by decide +kernel) | exact Or.inr (by decide +kernel)) rfl (by decide +kernel) (by decide +kernel) (by decide +kernel)) ?ud ?uu ?_; (case uB => k_asm); (case uF => k_asm); (case uX => k_asm); (case uN => k_asm); (case uT => k_asm); (case uk => exact rfl); (case ua => assumption); (case ur => assumption); (case u1 => exact Nat.le_of_ble_eq_true rfl); (case u2 => decide +kernel); (case q1 => first | ((show hasC _ 40 = true); decide +kernel) | ((show hasC _ 40 = false); decide +kernel)); (case q2 => first | ((show hasC _ 41 = true); decide +kernel) | ((show hasC _ 41 = false); decide +kernel)); (case q3 => first | ((show hasC _ 97 = true); decide +kernel) | ((show hasC _ 97 = false); decide +kernel)); (case q4 => first | ((show hasC _ 32 = true); decide +kernel) | ((show hasC _ 32 = false); decide +kernel)); (case ud => ktr_room); (case uu => ktr_units); k_whole; intro yZ oZ oldZ hZ tkZ FZ NZ hRZ; (try dsimp only [cond] at hRZ); (try dsimp only)))) | ((with_reducible show wpAny _ _ (call (.ref 187) _) _ _ _); (k_dflt (refine' call_modify ?uB ?uF ?uX ?uN ?uT ?uk ?ur ?u1 ?u2 ?q1 ?q2 ?q3 ?q4 (read_syntax_some _ _ _ _ (by decide +kernel) (by first | exact Or.inl (by decide +kernel) | exact Or.inr (by decide +kernel)) rfl (by decide +kernel) (by decide +kernel) (by decide +kernel)) ?ud ?uu ?_; (case uB => k_asm); (case uF => k_asm); (case uX => k_asm); (case uN => k_asm); (case uT => k_asm); (case uk => exact rfl); (case ur => assumption); (case u1 => exact Nat.le_of_ble_eq_true rfl); (case u2 => decide +kernel); (case q1 => first | ((show hasC _ 40 = true); decide +kernel) | ((show hasC _ 40 = false); decide +kernel)); (case q2 => first | ((show hasC _ 41 = true); decide +kernel) | ((show hasC _ 41 = false); decide +kernel)); (case q3 => first | ((show hasC _ 97 = true); decide +kernel) | ((show hasC _ 97 = false); decide +kernel)); (case q4 => first | ((show hasC _ 32 = true); decide +kernel) | ((show hasC _ 32 = false); decide +kernel)); (case ud => ktr_room); (case uu => ktr_units); k_whole; intro yZ oZ oldZ hZ tkZ FZ NZ hRZ; (try dsimp only [cond] at hRZ); (try dsimp only)))) | ((with_reducible show wpAny _ _ (call (.ref 236) _) _ _ _); (k_dflt (refine' Does.nil (letters_does _) ?uB ?uF ?uX ?uN ?uT ?uk ?uP ?ud ?uu ?_; walk_at "mine:n"; k_whole; intro rZ nxZ hZ tkZ FZ NZ hrZ; (try dsimp only at hrZ); ((obtain ⟨hn9, t9, hr9⟩ := hrZ); subst hn9; subst hr9); walk_at "mine:f"))) | ((with_reducible show wpAny _ _ (call (.ref 225) _) _ _ _); (k_dflt (refine' new_tab ?uB ?uF ?uX ?uN ?uT ?u1 ?u2 ?u3 ?ud ?_; walk_at "mine:c"; (obtain ⟨dtZ, rdZ, h1Z, h2Z, k1Z, k2Z, oZ, hn9, hR9, loZ⟩ := hSZ); subst hn9; have hRZ := tab_start hR9; clear hR9; walk_at "mine:f")))) | ((with_reducible show wpAny _ _ (exec (.For _ _ _ _ _) _) _ _ _); (refine halt ?_)) | ((with_reducible show wpAny _ _ (exec (.For _ _ _ _ _) _) _ _ _); (refine halt ?_)) | ((with_reducible show wpAny _ _ (exec (.For _ _ _ _ _) _) _ _ _); (refine halt ?_)) | ((with_reducible show wpAny _ _ (exec (.For _ _ _ _ _) _) _ _ _); (refine halt ?_)) | ((with_reducible show wpAny _ _ (exec (.While _ _ _ _) _) _ _ _); refine halt ?_) | ((with_reducible show wpAny _ _ (exec (.For _ _ _ _ _) _) _ _ _); refine halt ?_) | ((with_reducible show wpAny _ _ (eval (.Name _ _) _) _ _ _); k_here; k_dflt (refine' ld ?k1 ?k2 ?_; (case k1 => k_asm); (case k2 => first | with_reducible assumption | exact rfl | assumption); k_whole)) | walk1 | (dsimp only; with_reducible show wpAny _ _ (call (.ref _) _) _ _ _) | (dsimp only; walk1) | (leave1; (try dsimp only))))
    exact hret _ _ _ _ (by assumption) (by assumption) (Kept.of_frame hg' (by assumption)) ⟨_, rfl, tab_done (by assumption) hc hd (hab (Nat.succ_le_succ (Nat.zero_le _))).1 (hab (Nat.succ_le_succ (Nat.zero_le _))).2 (by assumption)⟩
end
-- G1
noncomputable section
set_option maxRecDepth 100000

noncomputable def ViewLed (codes : List Int) (x : Addr) (nx : Led) : Prop := ∃ (dx lc : Addr) (h1 h2 : Int) (k1 k2 tv : Tok) (vs : List Value) (n : Nat), nx = [(x, instObj 639 dx), (dx, dictOf [⟨h1, .str (Str.ofString "codes") k1, .ref lc⟩, ⟨h2, .str (Str.ofString "place") k2, .int 1 tv⟩] 2), (lc, { cls := .type "list", data := .seq vs.toArray n })] ∧ IntsAre vs codes
/-- all but the object and its dict are new -/
noncomputable def ViewNew (h : Heap) (x dx : Addr) (nx : Led) : Prop := ∀ p ∈ nx, p.1 = x ∨ p.1 = dx ∨ h.get? p.1 = none
theorem view_new {s g' h' : Heap} {L' x dx : Addr} {led nx : Led} (hg' : ∀ b o, s.get? b = some o → (∀ p ∈ led, p.1 ≠ b) → g'.get? b = some o) (N : News g' L' h' nx) (hl : ∀ p ∈ led, p.1 = x ∨ p.1 = dx) : ViewNew s x dx nx := by
  intro p hp
  by_cases h1 : p.1 = x
  · exact .inl h1
  · by_cases h2 : p.1 = dx
    · exact .inr (.inl h2)
    · refine .inr (.inr ?_)
      cases q : s.get? p.1 with
      | none => rfl
      | some o =>
        have := hg' _ _ q fun r hr z => (hl r hr).elim (fun e => h1 (z.symm.trans e)) (fun e => h2 (z.symm.trans e))
        rw [(N p hp).2.2] at this
        cases this
set_option maxHeartbeats 4000000 in
theorem view_init {w : World} {A A₀ : Around} {base h₀ : Heap} {outer : List Env} {env : Env} {L : Addr} {m : Str → Option Value} {s : Shared} {mean : ExcName → Option Value} {mg mb : Str → Option Value} {R : Result → Shared → Prop} {x dx : Addr} {lo : Addr} {vs : List Value} {codes : List Int} (hl : s.heap.IsList lo vs.toArray) (hi : IntsAre vs codes) (hn : codes.length ≤ 90) (hlx : lo ≠ x ∧ lo ≠ dx)
    (B : Below A₀ base outer h₀) (F : Fr h₀ L s.heap m) (X : (K w.params).In h₀) (N : News h₀ L s.heap [(x, instObj 639 dx), (dx, dictOf [] 0)]) (T : Tp mean mg mb h₀) (hA : A.frames = some (env :: outer)) (hf : env.frame = some L) (hke : env.scope.kind = .function) (hroom : A.depth < recursionLimit) (hlt : @LT.lt Nat _ dx x)
    (k : ∀ h' tk' nx, Fr h₀ L h' m → News h₀ L h' nx → Kept s.heap [(x, instObj 639 dx), (dx, dictOf [] 0)] h' → ViewLed codes x nx ∧ ViewNew s.heap x dx nx → R (.ok (.ret .none)) { s with heap := h', toks := tk' }) :
    codeAny (model Pg w) A (.call (.ref 615) ⟨[.ref x, .ref lo], []⟩) R s := by
  k_dflt (refine' enter (binds := [(Str.ofString "self", .ref x), (Str.ofString "codes", .ref lo), (Str.ofString "place", .int 1 1106)]) ?k1 ?k2 ?k3 ?k4 ?k5 ?kA ?kF ?kK ?k6 ?k7 ?k8 ?k9 ?kB ?_ ?c2 ?c3 ?c4 ?c5; (case kA => assumption); (case kF => assumption); (case kK => assumption); (case k1 => k_asm); (case k2 => k_asm); (case k3 => k_asm); (case k4 => k_asm); (case k5 => k_asm); (case k6 => k_is); (case k7 => k_is); (case k8 => ktr_room); (case k9 => first | exact BindsTo.of_eq rfl | exact binds_K (by k_in) rfl (by k_is) rfl rfl rfl); (case c5 => decide); (case kB => exact locs rfl); (case c2 => exact rfl); (case c3 => exact rfl); (case c4 => exact rfl); k_whole; intro g' L' h' tk0 FG' F' N' B' X' T' hg'; (try dsimp only); (try k_fold); (try (refine letA ?_; intro Ak)))
  have hl' : g'.IsList lo vs.toArray := by
    obtain ⟨o, e, r⟩ := hl
    refine ⟨o, hg' _ _ e fun p hp z => ?_, r⟩
    rcases List.mem_cons.mp hp with rfl | hp
    · exact hlx.1 z.symm
    · rcases List.mem_cons.mp hp with rfl | hp
      · exact hlx.2 z.symm
      · cases hp
  (repeat' (first | (k_unfold; (try dsimp only)) | (k_end; kc_close) | ((with_reducible show wpAny _ _ (execs (_ :: _) _) _ _ _); (with_reducible refine wpAny_execs_cons ?_); (try dsimp only)) | (k_closed; first | ((with_reducible refine ite_pos ?_ ?_); (focus (k_dflt decide))) | ((with_reducible refine ite_neg ?_ ?_); (focus (k_dflt decide)))) | ((with_reducible show wpAny _ _ (exec (.While _ _ _ _) _) _ _ _); refine halt ?_) | ((with_reducible show wpAny _ _ (exec (.For _ _ _ _ _) _) _ _ _); refine halt ?_) | ((with_reducible show wpAny _ _ (eval (.Name _ _) _) _ _ _); k_here; k_dflt (refine' ld ?k1 ?k2 ?_; (case k1 => k_asm); (case k2 => first | with_reducible assumption | exact rfl | assumption); k_whole)) | walk1 | (dsimp only; walk1) | (leave1; (try dsimp only))))
  rename News g' _ _ _ => NN
  refine' k _ _ [(x, instObj 639 dx), (dx, _), (_, { cls := .type "list", data := .seq _ _ })] ?cF ?cN (Kept.of_frame hg' (by assumption)) ⟨⟨_, _, _, _, _, _, _, _, _, rfl, hi⟩, ?cV⟩
  (case cF => assumption)
  (case cN => exact News.sub (by assumption) (by (first | (refine sub1 ?_; k_mem) | (refine sub2 ?_ ?_; k_mem; k_mem) | (refine sub3 ?_ ?_ ?_; k_mem; k_mem; k_mem) | ((repeat (refine' List.forall_mem_cons.mpr ⟨?_, ?_⟩; focus k_mem)); exact List.forall_mem_nil _))))
  (case cV => exact view_new (led := [(x, instObj 639 dx), (dx, dictOf [] 0)]) hg' (News.sub NN (by (first | (refine sub1 ?_; k_mem) | (refine sub2 ?_ ?_; k_mem; k_mem) | (refine sub3 ?_ ?_ ?_; k_mem; k_mem; k_mem) | ((repeat (refine' List.forall_mem_cons.mpr ⟨?_, ?_⟩; focus k_mem)); exact List.forall_mem_nil _)))) (fun p hp => by
    rcases List.mem_cons.mp hp with rfl | hp
    · exact .inl rfl
    · rcases List.mem_cons.mp hp with rfl | hp
      · exact .inr rfl
      · cases hp))
theorem new_view {w : World} {A A₀ : Around} {base h₀ : Heap} {outer : List Env} {env : Env} {L : Addr} {m : Str → Option Value} {s : Shared} {mean : ExcName → Option Value} {mg mb : Str → Option Value} {Q E : Value → Shared → Prop} {news : Led} {lo : Addr} {vs : List Value} {codes : List Int} {k9 : Nat} (hm : (lo, ({ cls := .type "list", data := .seq vs.toArray k9 } : Obj)) ∈ news) (hi : IntsAre vs codes) (hn : codes.length ≤ 90)
    (B : Below A₀ base outer h₀) (F : Fr h₀ L s.heap m) (X : (K w.params).In h₀) (N : News h₀ L s.heap news) (T : Tp mean mg mb h₀) (hA : A.frames = some (env :: outer)) (hf : env.frame = some L) (hke : env.scope.kind = .function) (hroom : A.depth + 1 < recursionLimit)
    (k : ∀ x h' tk' nx, Fr h₀ L h' m → News h₀ L h' (nx ++ news) → ViewLed codes x nx ∧ (∀ p ∈ nx, ∀ q ∈ news, p.1 ≠ q.1) → Q (.ref x) { s with heap := h', toks := tk' }) :
    wpAny (model Pg w) A (call (.ref 639) [.ref lo]) Q E s := by
  refine call_cls F X N (by k_is) (by k_is) (by k_is) ?_
  intro x dx h' F' N' l1 l2
  have N2 : News h₀ L h' [(x, instObj 639 dx), (dx, dictOf [] 0)] := News.sub N' fun p hp => by
    rcases List.mem_cons.mp hp with rfl | hp
    · exact .head _
    · rcases List.mem_cons.mp hp with rfl | hp
      · exact .tail _ (.head _)
      · cases hp
  have hlo : lo < dx := l1 _ hm
  have hS9 : ∀ nx, ViewLed codes x nx ∧ ViewNew h' x dx nx → ViewLed codes x nx ∧ ∀ p ∈ nx, ∀ q ∈ news, p.1 ≠ q.1 := fun nx h => ⟨h.1, fun p hp q hq z => by
    have hN := (N' q (.tail _ (.tail _ hq))).1
    have h1 : q.1 < dx := l1 q hq
    have h2 : dx < x := l2
    rcases h.2 p hp with e | e | e
    · rw [← z, e] at h1; exact Nat.lt_irrefl _ (Nat.lt_trans h1 h2)
    · rw [← z, e] at h1; exact Nat.lt_irrefl _ h1
    · rw [z, hN] at e; cases e⟩
  refine view_init (s := { s with heap := h' }) ⟨_, (N' _ (.tail _ (.tail _ hm))).1, rfl, _, rfl⟩ hi hn ⟨Nat.ne_of_lt (Nat.lt_trans hlo l2), Nat.ne_of_lt hlo⟩ B F' X N2 T hA hf hke (by first | ktr_room | (show A.depth + 1 < _; omega)) l2 fun h2 tk2 nx F2 Nx Kp hS => ?_
  refine ⟨rfl, k x h2 tk2 nx F2 (fun p hp => ?_) (hS9 _ hS)⟩
  rcases List.mem_append.mp hp with hp | hp
  · exact Nx p hp
  · have hN := N' p (.tail _ (.tail _ hp))
    have h1 := l1 p hp
    refine ⟨Kp _ _ hN.1 fun q hq z => ?_, hN.2⟩
    rcases List.mem_cons.mp hq with rfl | hq
    · have z' : x = p.1 := z
      rw [← z'] at h1
      exact Nat.lt_irrefl _ (Nat.lt_trans h1 l2)
    · rcases List.mem_cons.mp hq with rfl | hq
      · have z' : dx = p.1 := z
        rw [← z'] at h1
        exact Nat.lt_irrefl _ h1
      · cases hq
theorem view_is {codes : List Int} {v : Addr} {nx : Led} {g h : Heap} {L : Addr} (a : ViewLed codes v nx) (N : News g L h nx) : IsView codes v h := by
  obtain ⟨dx, lc, h1, h2, k1, k2, tv, vs, n, rfl, hi⟩ := a
  exact ⟨dx, lc, h1, h2, k1, k2, tv, vs, n, ⟨(N _ (.head _)).1, rfl, rfl, (N _ (.tail _ (.head _))).1⟩, ⟨_, (N _ (.tail _ (.tail _ (.head _)))).1, rfl, n, rfl⟩, hi⟩
end
-- G2
noncomputable section
set_option maxRecDepth 100000

theorem pop_first {prog : Program} {w : World} {A : Around} {E : Value → Shared → Prop} {s : Shared} {h₀ : Heap} {L D : Addr} {m : Str → Option Value} {news news' : Led} {n : Nat} {x : Value} {vs : List Value} {u : Tok} {Q : Value → Shared → Prop} (F : Fr h₀ L s.heap m) (N : News h₀ L s.heap news)
    (U : Upd D (listOf (x :: vs).toArray n) (listOf vs.toArray (n + 1)) news news') (hz : vs.length ≤ 23) (h : ∀ h', Fr h₀ L h' m → News h₀ L h' news' → Q x { s with heap := h' }) : wpAny (model prog w) A (call (.builtin "list.pop") [.ref D, .int 0 u]) Q E s := by
  refine kl_popAt (p := []) F N rfl (k := 0) ?_ rfl U ?_ h
  · rw [List.size_toArray, List.length_cons]
    have h0 : (0 : Int) < ((vs.length + 1 : Nat) : Int) := by omega
    have h1 : (if (0 : Int) < 0 then (0 : Int) + ((vs.length + 1 : Nat) : Int) else 0) = 0 := if_neg (by decide)
    unfold seqIndex?
    dsimp only
    rw [h1, if_pos (by rw [decide_eq_true h0]; rfl)]
    rfl
  · show vs.length + 1 ≤ sizeLine
    rw [sizeLine_eq]
    omega
noncomputable def DeckLed (dk lc : Addr) (nx : Led) : Prop := ∃ (vs : List Value) (ks : List Int) (a b : Int) (ta tb : Tok) (n n2 : Nat), nx = [(dk, { cls := .type "list", data := .seq #[.ref lc, .int a ta, .int b tb] n }), (lc, { cls := .type "list", data := .seq vs.toArray n2 })] ∧ IntsAre vs ks ∧ vs.length ≤ 24 ∧ @Ne Nat dk lc
set_option maxHeartbeats 16000000 in
theorem draw_none (w : World) (dk lc : Addr) (a b many : Int) (ta tb tm : Tok) (n n2 : Nat) (hne : @Ne Nat dk lc) (hm : 2 ≤ many ∧ many ≤ 20) :
    Does w 1 100 Any 655 [.ref dk, .int many tm] [(dk, { cls := .type "list", data := .seq #[.ref lc, .int a ta, .int b tb] n }), (lc, { cls := .type "list", data := .seq ([] : List Value).toArray n2 })] (fun r nx => ∃ x, IsI r x ∧ 0 ≤ x ∧ x < many ∧ DeckLed dk lc nx) := by
  unfold Does
  intro mean mg mb dp un gd cn cs a ccd cl outer A₀ base h₀ L m s g₀ Q E B F X N T hk hP st dj hd hu hret
  refine wpAny_call ?_
  k_dflt (refine' enter (binds := [(Str.ofString "deck", .ref dk), (Str.ofString "many", .int many tm)]) ?k1 ?k2 ?k3 ?k4 ?k5 ?kA ?kF ?kK ?k6 ?k7 ?k8 ?k9 ?kB ?_ ?c2 ?c3 ?c4 ?c5; (case kA => exact rfl); (case kF => exact rfl); (case kK => assumption); (case k1 => k_asm); (case k2 => k_asm); (case k3 => k_asm); (case k4 => k_asm); (case k5 => k_asm); (case k6 => k_is); (case k7 => k_is); (case k8 => ktr_room); (case k9 => first | exact BindsTo.of_eq rfl | exact binds_K (by k_in) rfl (by k_is) rfl rfl rfl); (case c5 => decide); (case kB => exact locs rfl); (case c2 => exact rfl); (case c3 => exact rfl); (case c4 => exact rfl); k_whole; intro g' L' h' tk0 FG' F' N' B' X' T' hg'; (try dsimp only); (try k_fold); (try (refine letA ?_; intro Ak)))
  clear hP st dj
  (repeat' (first | (k_unfold; (try dsimp only)) | (k_end; kc_close) | ((with_reducible show wpAny _ _ (execs (_ :: _) _) _ _ _); (with_reducible refine wpAny_execs_cons ?_); (try dsimp only)) | (k_closed; first | ((with_reducible refine ite_pos ?_ ?_); (focus (k_dflt decide))) | ((with_reducible refine ite_neg ?_ ?_); (focus (k_dflt decide)))) | ((with_reducible show wpAny _ _ (compareOp .NotEq (.ref _) (.ref _)) _ _ _); (k_here; (with_reducible show wpAny _ _ (compareOp CmpOp.NotEq (Value.ref _) (Value.ref _)) _ _ _); k_dflt (refine' ne_intsK (us := []) (ms := []) ?k1 ?k2 ?k3 ?k4 ?k5 ?_; (case k1 => exact News.isList (by k_asm) (by k_mem)); (case k2 => first | assumption | exact IntsAre.nil); (case k3 => exact News.isList (by k_asm) (by k_mem)); (case k4 => exact IntsAre.nil); (case k5 => ktr_units); k_whole))) | ((with_reducible show wpAny _ _ (call (.builtin "list.pop") _) _ _ _); (k_here; k_dflt (refine' pop_first ?qF ?qN ?qU ?qz ?_; (case qF => k_asm); (case qN => k_asm); (case qU => k_upd); (case qz => assumption)); intro hZ FZ NZ; (try dsimp only [List.nil_append, List.cons_append] at NZ))) | ((with_reducible show wpAny _ _ (exec (.While _ _ _ _) _) _ _ _); refine halt ?_) | ((with_reducible show wpAny _ _ (exec (.For _ _ _ _ _) _) _ _ _); refine halt ?_) | ((with_reducible show wpAny _ _ (eval (.Name _ _) _) _ _ _); k_here; k_dflt (refine' ld ?k1 ?k2 ?_; (case k1 => k_asm); (case k2 => first | with_reducible assumption | exact rfl | assumption); k_whole)) | walk1 | (dsimp only; walk1) | (leave1; (try dsimp only))))
  refine' hret _ [(dk, _), (lc, { cls := .type "list", data := .seq (List.toArray _) _ })] _ _ ?F ?N (Kept.of_frame hg' (by assumption)) ⟨_, ⟨_, rfl⟩, fmod_lo _ (by omega), fmod_hi _ (by omega), _, _, _, _, _, _, _, _, rfl, ?i, ?len, hne⟩; (case F => assumption); (case N => exact News.sub (by assumption) (by (first | (refine sub1 ?_; k_mem) | (refine sub2 ?_ ?_; k_mem; k_mem) | (refine sub3 ?_ ?_ ?_; k_mem; k_mem; k_mem) | ((repeat (refine' List.forall_mem_cons.mpr ⟨?_, ?_⟩; focus k_mem)); exact List.forall_mem_nil _)))); (case i => exact IntsAre.nil); (case len => exact Nat.zero_le _)
set_option maxHeartbeats 16000000 in
theorem draw_some (w : World) (dk lc : Addr) (a b c many : Int) (vs : List Value) (ks : List Int) (hi : IntsAre vs ks) (hl : vs.length ≤ 23) (ta tb tc tm : Tok) (n n2 : Nat) (hne : @Ne Nat dk lc) (hm : 2 ≤ many ∧ many ≤ 20) :
    Does w 1 100 Any 655 [.ref dk, .int many tm] [(dk, { cls := .type "list", data := .seq #[.ref lc, .int a ta, .int b tb] n }), (lc, { cls := .type "list", data := .seq (Value.int c tc :: vs).toArray n2 })] (fun r nx => ∃ x, IsI r x ∧ 0 ≤ x ∧ x < many ∧ DeckLed dk lc nx) := by
  unfold Does
  intro mean mg mb dp un gd cn cs a ccd cl outer A₀ base h₀ L m s g₀ Q E B F X N T hk hP st dj hd hu hret
  refine wpAny_call ?_
  k_dflt (refine' enter (binds := [(Str.ofString "deck", .ref dk), (Str.ofString "many", .int many tm)]) ?k1 ?k2 ?k3 ?k4 ?k5 ?kA ?kF ?kK ?k6 ?k7 ?k8 ?k9 ?kB ?_ ?c2 ?c3 ?c4 ?c5; (case kA => exact rfl); (case kF => exact rfl); (case kK => assumption); (case k1 => k_asm); (case k2 => k_asm); (case k3 => k_asm); (case k4 => k_asm); (case k5 => k_asm); (case k6 => k_is); (case k7 => k_is); (case k8 => ktr_room); (case k9 => first | exact BindsTo.of_eq rfl | exact binds_K (by k_in) rfl (by k_is) rfl rfl rfl); (case c5 => decide); (case kB => exact locs rfl); (case c2 => exact rfl); (case c3 => exact rfl); (case c4 => exact rfl); k_whole; intro g' L' h' tk0 FG' F' N' B' X' T' hg'; (try dsimp only); (try k_fold); (try (refine letA ?_; intro Ak)))
  clear hP st dj
  have hi' : IntsAre (Value.int c tc :: vs) (c :: ks) := .cons c tc hi
  (repeat' (first | (k_unfold; (try dsimp only)) | (k_end; kc_close) | ((with_reducible show wpAny _ _ (execs (_ :: _) _) _ _ _); (with_reducible refine wpAny_execs_cons ?_); (try dsimp only)) | (k_closed; first | ((with_reducible refine ite_pos ?_ ?_); (focus (k_dflt decide))) | ((with_reducible refine ite_neg ?_ ?_); (focus (k_dflt decide)))) | ((with_reducible show wpAny _ _ (compareOp .NotEq (.ref _) (.ref _)) _ _ _); (k_here; (with_reducible show wpAny _ _ (compareOp CmpOp.NotEq (Value.ref _) (Value.ref _)) _ _ _); k_dflt (refine' ne_intsK (us := []) (ms := []) ?k1 ?k2 ?k3 ?k4 ?k5 ?_; (case k1 => exact News.isList (by k_asm) (by k_mem)); (case k2 => first | assumption | exact IntsAre.nil); (case k3 => exact News.isList (by k_asm) (by k_mem)); (case k4 => exact IntsAre.nil); (case k5 => ktr_units); k_whole))) | ((with_reducible show wpAny _ _ (call (.builtin "list.pop") _) _ _ _); (k_here; k_dflt (refine' pop_first ?qF ?qN ?qU ?qz ?_; (case qF => k_asm); (case qN => k_asm); (case qU => k_upd); (case qz => assumption)); intro hZ FZ NZ; (try dsimp only [List.nil_append, List.cons_append] at NZ))) | ((with_reducible show wpAny _ _ (exec (.While _ _ _ _) _) _ _ _); refine halt ?_) | ((with_reducible show wpAny _ _ (exec (.For _ _ _ _ _) _) _ _ _); refine halt ?_) | ((with_reducible show wpAny _ _ (eval (.Name _ _) _) _ _ _); k_here; k_dflt (refine' ld ?k1 ?k2 ?_; (case k1 => k_asm); (case k2 => first | with_reducible assumption | exact rfl | assumption); k_whole)) | walk1 | (dsimp only; walk1) | (leave1; (try dsimp only))))
  · refine' hret _ [(dk, _), (lc, { cls := .type "list", data := .seq (List.toArray _) _ })] _ _ ?F ?N (Kept.of_frame hg' (by assumption)) ⟨_, ⟨_, rfl⟩, fmod_lo _ (by omega), fmod_hi _ (by omega), _, _, _, _, _, _, _, _, rfl, ?i, ?len, hne⟩; (case F => assumption); (case N => exact News.sub (by assumption) (by (first | (refine sub1 ?_; k_mem) | (refine sub2 ?_ ?_; k_mem; k_mem) | (refine sub3 ?_ ?_ ?_; k_mem; k_mem; k_mem) | ((repeat (refine' List.forall_mem_cons.mpr ⟨?_, ?_⟩; focus k_mem)); exact List.forall_mem_nil _)))); (case i => assumption)
    (case len => show vs.length + 1 ≤ 24; omega)
  · refine' hret _ [(dk, _), (lc, { cls := .type "list", data := .seq (List.toArray _) _ })] _ _ ?F ?N (Kept.of_frame hg' (by assumption)) ⟨_, ⟨_, rfl⟩, fmod_lo _ (by omega), fmod_hi _ (by omega), _, _, _, _, _, _, _, _, rfl, ?i, ?len, hne⟩; (case F => assumption); (case N => exact News.sub (by assumption) (by (first | (refine sub1 ?_; k_mem) | (refine sub2 ?_ ?_; k_mem; k_mem) | (refine sub3 ?_ ?_ ?_; k_mem; k_mem; k_mem) | ((repeat (refine' List.forall_mem_cons.mpr ⟨?_, ?_⟩; focus k_mem)); exact List.forall_mem_nil _)))); (case i => exact hi)
    (case len => omega)
  · refine' hret _ [(dk, _), (lc, { cls := .type "list", data := .seq (List.toArray _) _ })] _ _ ?F ?N (Kept.of_frame hg' (by assumption)) ⟨_, ⟨_, rfl⟩, fmod_lo _ (by omega), fmod_hi _ (by omega), _, _, _, _, _, _, _, _, rfl, ?i, ?len, hne⟩; (case F => assumption); (case N => exact News.sub (by assumption) (by (first | (refine sub1 ?_; k_mem) | (refine sub2 ?_ ?_; k_mem; k_mem) | (refine sub3 ?_ ?_ ?_; k_mem; k_mem; k_mem) | ((repeat (refine' List.forall_mem_cons.mpr ⟨?_, ?_⟩; focus k_mem)); exact List.forall_mem_nil _)))); (case i => assumption)
    (case len => rw [List.length_set]; show vs.length + 1 ≤ 24; omega)
theorem draw_does (w : World) (dk lc : Addr) (led : Led) (many : Int) (tm : Tok) (hd : DeckLed dk lc led) (hm : 2 ≤ many ∧ many ≤ 20) :
    Does w 1 100 Any 655 [.ref dk, .int many tm] led (fun r nx => ∃ x, IsI r x ∧ 0 ≤ x ∧ x < many ∧ DeckLed dk lc nx) := by
  obtain ⟨vs, ks, a, b, ta, tb, n, n2, rfl, hi, hl, hne⟩ := hd
  cases hi with
  | nil => exact draw_none w dk lc a b many ta tb tm n n2 hne hm
  | cons c tc hi => exact draw_some w dk lc a b c many _ _ hi (by simpa using hl) ta tb tc tm n n2 hne hm
end
-- G3
noncomputable section
set_option maxRecDepth 100000

theorem intsAre_snoc {ys : List Value} {ks : List Int} {k : Int} {t : Tok} (h : IntsAre ys ks) : IntsAre (ys ++ [.int k t]) (ks ++ [k]) := IntsAre.append h (.cons k t .nil)
section
open LCg
variable {prog : Program} {w : World} {A : Around} {E : Value → Shared → Prop} {s : Shared} {h₀ : Heap} {L : Addr} {m : Str → Option Value} {env : Env}
/-- the turns of a block that keeps some of the ints -/
theorem filter_rest {ct elt : PySem.Expr} {x : Str} {scope : Scope} {cl : List (Str × Addr)} {S : Led → Prop} {P : Nat → Value → Prop} {Fin : List Value → Led → Prop} {n : Nat} {news : Led} (hP : ∀ i v, P i v → ∃ k t, v = .int k t)
    (turn : ∀ k t I oI C oC D ys m₂ h tk (E' : Value → Shared → Prop), NsObj oC m₂ → m₂ x = some (.int k t) → Fr h₀ L h m → News h₀ L h ((I, oI) :: (C, oC) :: (D, LCg.lst ys) :: news) → Off3 I C D news → ((@Ne Nat I C) ∧ (@Ne Nat I D) ∧ (@Ne Nat C D)) →
      wpAny (model prog w) A (isTrue ct (compEnvC scope cl C env) (eval ct (compEnvC scope cl C env))) (fun ok s' => if ok = true then
        wpAny (model prog w) A (eval elt (compEnvC scope cl C env)) (CompEnd h₀ L m { s with heap := h, toks := tk } I oI C oC D (LCg.lst ys) S (fun y news' => news' = news ∧ ∃ k t, y = .int k t)) E' s'
        else CompEnd h₀ L m { s with heap := h, toks := tk } I oI C oC D (LCg.lst ys) S (fun _ news' => news' = news) Value.none s') E' { s with heap := h, toks := tk })
    (fin : ∀ ys ks, IntsAre ys ks → ys.length ≤ n → Fin ys news) : LCt.CompRestT prog w A h₀ L m env ct elt x scope cl s S P Fin n 0 [] news := by
  refine restT_inv (fun i ys nw => nw = news ∧ ∃ ks, IntsAre ys ks ∧ ys.length ≤ i) ⟨rfl, [], .nil, Nat.le_refl _⟩ ?_ ?_
  · rintro i ys _ hi ⟨rfl, ks, hk, hl⟩ v I oI C oC D m₂ h tk E' hv hC hx F N off ne
    obtain ⟨k, t, rfl⟩ := hP i v hv
    refine wpAny_mono (turn k t I oI C oC D ys m₂ h tk E' hC hx F N off ne) (fun ok s₂ hq => ?_) fun _ _ e => e
    cases ok
    · rw [if_neg (by decide)] at hq ⊢
      obtain ⟨h', tk', nw, e, F', N', off', hS, hn⟩ := hq
      exact ⟨h', tk', nw, e, F', N', off', hS, hn, ks, hk, Nat.le_succ_of_le hl⟩
    · rw [if_pos rfl] at hq ⊢
      refine wpAny_mono hq (fun y s₃ hq' => ?_) fun _ _ e => e
      obtain ⟨h', tk', nw, e, F', N', off', hS, hn, k', t', rfl⟩ := hq'
      exact ⟨h', tk', nw, e, F', N', off', hS, hn, _, intsAre_snoc hk, by rw [List.length_append]; exact Nat.succ_le_succ hl⟩
  · rintro ys _ ⟨rfl, ks, hk, hl⟩
    exact fin ys ks hk hl
end
noncomputable def ScriptIs (sl : Addr) (vs : List Value) (h : Heap) : Prop := h.IsList sl vs.toArray
theorem script_mono (sl : Addr) (vs : List Value) : Mono (ScriptIs sl vs) := fun _ _ k h => stays_list k h
set_option maxHeartbeats 16000000 in
theorem law_deck_does (w : World) (sl : Addr) (vs : List Value) (ks : List Int) (hi : IntsAre vs ks) (hl : vs.length ≤ 63) :
    Does w 2 16 (ScriptIs sl vs) 648 [.ref sl] [] (fun r nx => ∃ dk lc, r = .ref dk ∧ DeckLed dk lc nx) := by
  unfold Does
  intro mean mg mb dp un gd cn cs a ccd cl outer A₀ base h₀ L m s g₀ Q E B F X N T hk hP st dj hd hu hret
  refine wpAny_call ?_
  k_dflt (refine' enter (binds := [(Str.ofString "script", .ref sl)]) ?k1 ?k2 ?k3 ?k4 ?k5 ?kA ?kF ?kK ?k6 ?k7 ?k8 ?k9 ?kB ?_ ?c2 ?c3 ?c4 ?c5; (case kA => exact rfl); (case kF => exact rfl); (case kK => assumption); (case k1 => k_asm); (case k2 => k_asm); (case k3 => k_asm); (case k4 => k_asm); (case k5 => k_asm); (case k6 => k_is); (case k7 => k_is); (case k8 => ktr_room); (case k9 => first | exact BindsTo.of_eq rfl | exact binds_K (by k_in) rfl (by k_is) rfl rfl rfl); (case c5 => decide); (case kB => exact locs rfl); (case c2 => exact rfl); (case c3 => exact rfl); (case c4 => exact rfl); k_whole; intro g' L' h' tk0 FG' F' N' B' X' T' hg'; (try dsimp only); (try k_fold); (try (refine letA ?_; intro Ak)))
  have hS : g'.IsList sl vs.toArray := script_mono _ _ _ _ (stays_of st dj hg') hP
  clear hP st dj
  (repeat' (first | (k_unfold; (try dsimp only)) | (k_end; kc_close) | ((with_reducible show wpAny _ _ (execs (_ :: _) _) _ _ _); (with_reducible refine wpAny_execs_cons ?_); first | k_fold | (try dsimp only)) | (k_closed; first | ((with_reducible refine ite_pos ?_ ?_); (focus (k_dflt decide))) | ((with_reducible refine ite_neg ?_ ?_); (focus (k_dflt decide)))) | ((with_reducible show SrcG _ _ _ _ _ _ _ _ _ _); (refine halt ?_)) | ((with_reducible show wpAny _ _ (eval (.ListComp _ _ _ _) _) _ _ _); (k_here; k_dflt (refine ListComp_WT (F₀ := by k_asm) (by with_unfolding_all rfl) (by decide) (by rfl) (by decide) (by rfl) ?_))) | ((with_reducible show LCg.CompEnd _ _ _ _ _ _ _ _ _ _ _ _ _ _); (first | (refine LCg.CompEnd.intro (by assumption) (by assumption) _ (fun _ hp => hp) (by assumption) (by lcg_src) ?_) | lcg_end)) | ((with_reducible show wpAny _ _ (exec (.While _ _ _ _) _) _ _ _); refine halt ?_) | ((with_reducible show wpAny _ _ (exec (.For _ _ _ _ _) _) _ _ _); refine halt ?_) | ((with_reducible show wpAny _ _ (eval (.Name _ _) _) _ _ _); k_here; k_dflt (refine' ld ?k1 ?k2 ?_; (case k1 => k_asm); (case k2 => first | with_reducible assumption | exact rfl | assumption); k_whole)) | walk1 | (dsimp only; walk1) | (leave1; (try dsimp only))))
  refine unhalt ?_
  have e9 := IntsAre.length (show IntsAre ys _ by assumption)
  rw [List.length_map, List.length_take] at e9
  refine SrcG.lst (by rfl) (by k_asm) (by k_asm) (by k_mem) ?hsz ?_
  case hsz =>
    rw [sizeLine_eq, List.size_toArray]
    omega
  intro g2
  refine filter_rest (fun i v hv => ?_) ?_ ?_
  · (refine cps ?_; intro G9 out9)
    obtain ⟨k, t, e, _⟩ := IntsAre.at (by assumption) i v (by simpa using hv)
    (refine out9 ?_; clear out9 G9)
    exact ⟨k, t, e⟩
  · intro k t I oI C oC D ys m₂ h tk E' hC hx F₁ N₁ off ne
    (repeat' (first | (k_unfold; (try dsimp only)) | (k_end; kc_close) | ((with_reducible show wpAny _ _ (execs (_ :: _) _) _ _ _); (with_reducible refine wpAny_execs_cons ?_); first | k_fold | (try dsimp only)) | (k_closed; first | ((with_reducible refine ite_pos ?_ ?_); (focus (k_dflt decide))) | ((with_reducible refine ite_neg ?_ ?_); (focus (k_dflt decide)))) | ((with_reducible show SrcG _ _ _ _ _ _ _ _ _ _); (refine halt ?_)) | ((with_reducible show wpAny _ _ (eval (.ListComp _ _ _ _) _) _ _ _); (k_here; k_dflt (refine ListComp_WT (F₀ := by k_asm) (by with_unfolding_all rfl) (by decide) (by rfl) (by decide) (by rfl) ?_))) | ((with_reducible show LCg.CompEnd _ _ _ _ _ _ _ _ _ _ _ _ _ _); (first | (refine LCg.CompEnd.intro (by assumption) (by assumption) _ (fun _ hp => hp) (by assumption) (by lcg_src) ?_) | lcg_end)) | ((with_reducible show wpAny _ _ (exec (.While _ _ _ _) _) _ _ _); refine halt ?_) | ((with_reducible show wpAny _ _ (exec (.For _ _ _ _ _) _) _ _ _); refine halt ?_) | ((with_reducible show wpAny _ _ (eval (.Name _ _) _) _ _ _); k_here; k_dflt (refine' ld ?k1 ?k2 ?_; (case k1 => k_asm); (case k2 => first | with_reducible assumption | exact rfl | assumption); k_whole)) | walk1 | (dsimp only; walk1) | (leave1; (try dsimp only))))
    all_goals w_report
  · intro ys9 ks9 hk9 hlen
    rw [List.size_toArray] at hlen
    have hlen9 : ys9.length ≤ 24 := by omega
    clear hlen
    (repeat' (first | (k_unfold; (try dsimp only)) | (k_end; kc_close) | ((with_reducible show wpAny _ _ (execs (_ :: _) _) _ _ _); (with_reducible refine wpAny_execs_cons ?_); first | k_fold | (try dsimp only)) | (k_closed; first | ((with_reducible refine ite_pos ?_ ?_); (focus (k_dflt decide))) | ((with_reducible refine ite_neg ?_ ?_); (focus (k_dflt decide)))) | ((with_reducible show SrcG _ _ _ _ _ _ _ _ _ _); (refine halt ?_)) | ((with_reducible show wpAny _ _ (eval (.ListComp _ _ _ _) _) _ _ _); (k_here; k_dflt (refine ListComp_WT (F₀ := by k_asm) (by with_unfolding_all rfl) (by decide) (by rfl) (by decide) (by rfl) ?_))) | ((with_reducible show LCg.CompEnd _ _ _ _ _ _ _ _ _ _ _ _ _ _); (first | (refine LCg.CompEnd.intro (by assumption) (by assumption) _ (fun _ hp => hp) (by assumption) (by lcg_src) ?_) | lcg_end)) | ((with_reducible show wpAny _ _ (exec (.While _ _ _ _) _) _ _ _); refine halt ?_) | ((with_reducible show wpAny _ _ (exec (.For _ _ _ _ _) _) _ _ _); refine halt ?_) | ((with_reducible show wpAny _ _ (eval (.Name _ _) _) _ _ _); k_here; k_dflt (refine' ld ?k1 ?k2 ?_; (case k1 => k_asm); (case k2 => first | with_reducible assumption | exact rfl | assumption); k_whole)) | walk1 | (dsimp only; walk1) | (leave1; (try dsimp only))))
    refine' hret _ [(_, { cls := .type "list", data := .seq #[.ref _, .int _ _, .int _ _] _ }), (_, { cls := .type "list", data := .seq (List.toArray ys9) _ })] _ _ ?F ?N (Kept.of_frame hg' (by assumption)) ⟨_, _, rfl, ys9, ks9, _, _, _, _, _, _, rfl, hk9, hlen9, ?ne⟩
    (case F => assumption)
    (case N => exact News.sub (by assumption) (by (first | (refine sub1 ?_; k_mem) | (refine sub2 ?_ ?_; k_mem; k_mem) | (refine sub3 ?_ ?_ ?_; k_mem; k_mem; k_mem) | ((repeat (refine' List.forall_mem_cons.mpr ⟨?_, ?_⟩; focus k_mem)); exact List.forall_mem_nil _))))
    (case ne => k_ne)
end
-- G4
noncomputable section
set_option maxRecDepth 100000

set_option maxHeartbeats 16000000 in
theorem law_many_does (w : World) (sl : Addr) (vs : List Value) (ks : List Int) (tl tm : Tok) (hi : IntsAre vs ks) (hl : vs.length ≤ 63) :
    Does w 2 16 (ScriptIs sl vs) 660 [.ref sl, .int 4 tl, .int 16 tm] [] (fun r nx => nx = [] ∧ ∃ x, IsI r x ∧ 4 ≤ x ∧ x ≤ 16) := by
  unfold Does
  intro mean mg mb dp un gd cn cs a ccd cl outer A₀ base h₀ L m s g₀ Q E B F X N T hk hP st dj hd hu hret
  refine wpAny_call ?_
  k_dflt (refine' enter (binds := [(Str.ofString "script", .ref sl), (Str.ofString "least", .int 4 tl), (Str.ofString "most", .int 16 tm)]) ?k1 ?k2 ?k3 ?k4 ?k5 ?kA ?kF ?kK ?k6 ?k7 ?k8 ?k9 ?kB ?_ ?c2 ?c3 ?c4 ?c5; (case kA => exact rfl); (case kF => exact rfl); (case kK => assumption); (case k1 => k_asm); (case k2 => k_asm); (case k3 => k_asm); (case k4 => k_asm); (case k5 => k_asm); (case k6 => k_is); (case k7 => k_is); (case k8 => ktr_room); (case k9 => first | exact BindsTo.of_eq rfl | exact binds_K (by k_in) rfl (by k_is) rfl rfl rfl); (case c5 => decide); (case kB => exact locs rfl); (case c2 => exact rfl); (case c3 => exact rfl); (case c4 => exact rfl); k_whole; intro g' L' h' tk0 FG' F' N' B' X' T' hg'; (try dsimp only); (try k_fold); (try (refine letA ?_; intro Ak)))
  have hS : g'.IsList sl vs.toArray := script_mono _ _ _ _ (stays_of st dj hg') hP
  clear hP st dj
  (repeat' (first | (k_unfold; (try dsimp only)) | (k_end; kc_close) | ((with_reducible show wpAny _ _ (execs (_ :: _) _) _ _ _); (with_reducible refine wpAny_execs_cons ?_); first | k_fold | (try dsimp only)) | (k_closed; first | ((with_reducible refine ite_pos ?_ ?_); (focus (k_dflt decide))) | ((with_reducible refine ite_neg ?_ ?_); (focus (k_dflt decide)))) | ((with_reducible show wpAny _ _ (exec (.While _ _ _ _) _) _ _ _); refine halt ?_) | ((with_reducible show wpAny _ _ (exec (.For _ _ _ _ _) _) _ _ _); refine halt ?_) | ((with_reducible show wpAny _ _ (eval (.Name _ _) _) _ _ _); k_here; k_dflt (refine' ld ?k1 ?k2 ?_; (case k1 => k_asm); (case k2 => first | with_reducible assumption | exact rfl | assumption); k_whole)) | walk1 | (dsimp only; walk1) | (leave1; (try dsimp only))))
  refine unhalt ?_
  refine' While_start (fun n m₁ news₁ => news₁ = [] ∧ ∃ x z t u, m₁ (Str.ofString "many") = some (.int x t) ∧ m₁ (Str.ofString "size") = some (.int z u) ∧ m₁ (Str.ofString "most") = some (.int 16 tm) ∧ 4 ≤ x ∧ x ≤ 16 ∧ 16 - x < n) (n₀ := 20) (by assumption) ⟨[], News.nil, rfl, 4, _, _, _, rfl, rfl, rfl, by omega, by omega, by omega⟩ ?_
  intro n m₁ _ h₁ tk₁ F₁ N₁ hI9
  (try k_fold)
  (refine cps ?_; intro G9 out9)
  obtain ⟨rfl, x, z, t, u, a1, a2, a3, b1, b2, b3⟩ := hI9
  (refine out9 ?_; clear out9 G9)
  (repeat' (first | (k_unfold; (try dsimp only)) | (k_end; kc_close) | ((with_reducible show wpAny _ _ (execs (_ :: _) _) _ _ _); (with_reducible refine wpAny_execs_cons ?_); first | k_fold | (try dsimp only)) | (k_closed; first | ((with_reducible refine ite_pos ?_ ?_); (focus (k_dflt decide))) | ((with_reducible refine ite_neg ?_ ?_); (focus (k_dflt decide)))) | ((with_reducible show wpAny _ _ (exec (.While _ _ _ _) _) _ _ _); refine halt ?_) | ((with_reducible show wpAny _ _ (exec (.For _ _ _ _ _) _) _ _ _); refine halt ?_) | ((with_reducible show wpAny _ _ (eval (.Name _ _) _) _ _ _); k_here; k_dflt (refine' ld ?k1 ?k2 ?_; (case k1 => k_asm); (case k2 => first | with_reducible assumption | exact rfl | assumption); k_whole)) | walk1 | (dsimp only; walk1) | (leave1; (try dsimp only))))
  · (dsimp only [WhileStep2]; refine' ⟨_, _, _, [], n - 1, rfl, ?wF, ?wN, ?wlt, rfl, x + 1, _, _, _, ?w1, ?w2, ?w3, ?w4, ?w5, ?w6⟩)
    (case wF => assumption)
    (case wN => exact News.nil)
    (case wlt => omega)
    (case w1 => rfl)
    (case w2 => rfl)
    (case w3 => exact a3)
    (case w4 => omega)
    (case w5 => omega)
    (case w6 => omega)
  all_goals (refine' hret _ [] _ _ ?F News.nil (Kept.of_frame hg' (by assumption)) ⟨rfl, x, ⟨_, rfl⟩, b1, b2⟩; (case F => assumption))
end
-- G5
noncomputable section
set_option maxRecDepth 100000

noncomputable def Deck2 (dk lc : Addr) (o1 o2 : Obj) : Prop := DeckLed dk lc [(dk, o1), (lc, o2)]
noncomputable def Off2 (dk lc : Addr) (rest : Led) : Prop := ∀ p ∈ rest, p.1 ≠ dk ∧ p.1 ≠ lc
theorem deck_two {dk lc : Addr} {nx : Led} (h : DeckLed dk lc nx) : ∃ o1 o2, nx = [(dk, o1), (lc, o2)] ∧ Deck2 dk lc o1 o2 := by
  have h' := h
  obtain ⟨vs, ks, a, b, ta, tb, n, n2, rfl, _⟩ := h
  exact ⟨_, _, rfl, h'⟩
theorem call_draw {w : World} {dk lc : Addr} {o1 o2 : Obj} {X : Led} {many : Int} {tm : Tok}
    {mean : ExcName → Option Value} {mg mb : Str → Option Value} {dp un : Nat} {gd : Option (List Code)} {cn : Str} {cs : Scope} {a : Addr} {ccd : Value} {cl : List (Str × Addr)} {outer : List Env} {A₀ : Around} {base h₀ : Heap} {L : Addr} {m : Str → Option Value} {s : Shared} {Q E : Value → Shared → Prop}
    (B : Below A₀ base outer h₀) (F : Fr h₀ L s.heap m) (XX : (K w.params).In h₀) (N : News h₀ L s.heap ((dk, o1) :: (lc, o2) :: X)) (T : Tp mean mg mb h₀) (hk : cs.kind = .function) (hd : Deck2 dk lc o1 o2) (hoff : Off2 dk lc X) (hm : 2 ≤ many ∧ many ≤ 20) (hdp : dp + 1 < recursionLimit) (hu : un + 100 < cLine)
    (k : ∀ x t o1' o2' h' tk', 0 ≤ x → x < many → Fr h₀ L h' m → News h₀ L h' ((dk, o1') :: (lc, o2') :: X) → Deck2 dk lc o1' o2' → Q (.int x t) { s with heap := h', toks := tk' }) :
    wpAny (model Pg w) (ktrTop dp un gd cn cs L a ccd cl outer) (call (.ref 655) [.ref dk, .int many tm]) Q E s := by
  refine Does.keep (rest := X) (draw_does w dk lc _ many tm hd hm) B F XX N (fun p hp => ?_) (fun p hp => .tail _ (.tail _ hp)) (fun p hp q hq z => ?_) T hk (any_any _) hdp hu ?_
  · rcases List.mem_cons.mp hp with rfl | hp
    · exact .head _
    · rcases List.mem_cons.mp hp with rfl | hp
      · exact .tail _ (.head _)
      · cases hp
  · rcases List.mem_cons.mp hq with rfl | hq
    · exact (hoff p hp).1 z.symm
    · rcases List.mem_cons.mp hq with rfl | hq
      · exact (hoff p hp).2 z.symm
      · cases hq
  · rintro r nx h' tk' F' N' N2 ⟨x, ⟨t, rfl⟩, x0, x1, hD⟩
    obtain ⟨o1', o2', rfl, hD2⟩ := deck_two hD
    refine k x t o1' o2' h' tk' x0 x1 F' (fun p hp => ?_) hD2
    rcases List.mem_cons.mp hp with rfl | hp
    · exact N' _ (.head _)
    · rcases List.mem_cons.mp hp with rfl | hp
      · exact N' _ (.tail _ (.head _))
      · exact N2 p hp
noncomputable def FourN (c : Nat) : Prop := c = 40 ∨ c = 41 ∨ c = 97 ∨ c = 32
theorem item_four {x : Int} (h0 : 0 ≤ x) (h1 : x < 7) : ∃ c, Txt.item (Str.ofString "(())a a") x = ⟨#[c]⟩ ∧ FourN c := by
  have h : x = 0 ∨ x = 1 ∨ x = 2 ∨ x = 3 ∨ x = 4 ∨ x = 5 ∨ x = 6 := by omega
  rcases h with rfl | rfl | rfl | rfl | rfl | rfl | rfl
  · exact ⟨40, by decide +kernel, .inl rfl⟩
  · exact ⟨40, by decide +kernel, .inl rfl⟩
  · exact ⟨41, by decide +kernel, .inr (.inl rfl)⟩
  · exact ⟨41, by decide +kernel, .inr (.inl rfl)⟩
  · exact ⟨97, by decide +kernel, .inr (.inr (.inl rfl))⟩
  · exact ⟨32, by decide +kernel, .inr (.inr (.inr rfl))⟩
  · exact ⟨97, by decide +kernel, .inr (.inr (.inl rfl))⟩
section
open LCg
variable {prog : Program} {w : World} {A : Around} {E : Value → Shared → Prop} {s : Shared} {h₀ : Heap} {L : Addr} {m : Str → Option Value} {env : Env}
noncomputable def RowEnd (h₀ : Heap) (L : Addr) (m : Str → Option Value) (s : Shared) (dk lc : Addr) (X : Led) (y : Value) (s' : Shared) : Prop := ∃ h' tk' o1' o2', s' = { s with heap := h', toks := tk' } ∧ Fr h₀ L h' m ∧ News h₀ L h' ((dk, o1') :: (lc, o2') :: X) ∧ Deck2 dk lc o1' o2' ∧ ∃ c t, y = .str ⟨#[c]⟩ t ∧ FourN c
noncomputable def CodeEnd (h₀ : Heap) (L : Addr) (m : Str → Option Value) (s : Shared) (X : Led) (c : Nat) (y : Value) (s' : Shared) : Prop := ∃ h' tk', s' = { s with heap := h', toks := tk' } ∧ Fr h₀ L h' m ∧ News h₀ L h' X ∧ ∃ t, y = .int (c : Int) t
/-- the turns of the block that draws a row's signs -/
theorem row_rest {elt : PySem.Expr} {x : Str} {scope : Scope} {cl : List (Str × Addr)} {S : Led → Prop} {P : Nat → Value → Prop} {Fin : List Value → Led → Prop} {n : Nat} {dk lc : Addr} {o1 o2 : Obj} {rest : Led} (hS : ∀ nw, S nw) (hd : Deck2 dk lc o1 o2) (hoff : Off2 dk lc rest)
    (turn : ∀ v o1 o2 I oI C oC D ys m₂ h tk (E' : Value → Shared → Prop), Deck2 dk lc o1 o2 → NsObj oC m₂ → m₂ x = some v → Fr h₀ L h m → News h₀ L h ((dk, o1) :: (lc, o2) :: (I, oI) :: (C, oC) :: (D, LCg.lst ys) :: rest) → Off2 dk lc ((I, oI) :: (C, oC) :: (D, LCg.lst ys) :: rest) →
      wpAny (model prog w) A (eval elt (compEnvC scope cl C env)) (RowEnd h₀ L m s dk lc ((I, oI) :: (C, oC) :: (D, LCg.lst ys) :: rest)) E' { s with heap := h, toks := tk })
    (fin : ∀ ys cs o1 o2, StrsAre ys (sgs cs) → (∀ c ∈ cs, FourN c) → cs.length = n → Deck2 dk lc o1 o2 → Fin ys ((dk, o1) :: (lc, o2) :: rest)) : CompRest prog w A h₀ L m env elt x scope cl s S P Fin n 0 [] ((dk, o1) :: (lc, o2) :: rest) := by
  refine rest_inv (fun i ys nw => ∃ o1 o2 cs, nw = (dk, o1) :: (lc, o2) :: rest ∧ Deck2 dk lc o1 o2 ∧ StrsAre ys (sgs cs) ∧ (∀ c ∈ cs, FourN c) ∧ cs.length = i) ⟨o1, o2, [], rfl, hd, .nil, (fun _ h => nomatch h), rfl⟩ ?_ ?_
  · rintro i ys _ hi ⟨o1, o2, cs, rfl, hd, hs, hf, hl⟩ v I oI C oC D m₂ h tk E' hv hC hx F N off ne
    have offm := off.mem
    refine wpAny_mono (turn v o1 o2 I oI C oC D ys m₂ h tk E' hd hC hx F (fun p hp => ?_) (fun p hp => ?_)) (fun y s₂ hq => ?_) fun _ _ e => e
    · rcases List.mem_cons.mp hp with rfl | hp
      · exact N _ (.tail _ (.tail _ (.tail _ (.head _))))
      · rcases List.mem_cons.mp hp with rfl | hp
        · exact N _ (.tail _ (.tail _ (.tail _ (.tail _ (.head _)))))
        · rcases List.mem_cons.mp hp with rfl | hp
          · exact N _ (.head _)
          · rcases List.mem_cons.mp hp with rfl | hp
            · exact N _ (.tail _ (.head _))
            · rcases List.mem_cons.mp hp with rfl | hp
              · exact N _ (.tail _ (.tail _ (.head _)))
              · exact N _ (.tail _ (.tail _ (.tail _ (.tail _ (.tail _ hp)))))
    · have a1 := offm (dk, o1) (.head _)
      have a2 := offm (lc, o2) (.tail _ (.head _))
      rcases List.mem_cons.mp hp with rfl | hp
      · exact ⟨fun z => a1.1 z.symm, fun z => a2.1 z.symm⟩
      · rcases List.mem_cons.mp hp with rfl | hp
        · exact ⟨fun z => a1.2.1 z.symm, fun z => a2.2.1 z.symm⟩
        · rcases List.mem_cons.mp hp with rfl | hp
          · exact ⟨fun z => a1.2.2 z.symm, fun z => a2.2.2 z.symm⟩
          · exact hoff p hp
    · obtain ⟨h', tk', o1', o2', rfl, F', N', hd', c, t, rfl, hc⟩ := hq
      refine ⟨h', tk', (dk, o1') :: (lc, o2') :: rest, rfl, F', fun p hp => ?_, Off3.of fun p hp => ?_, hS _, o1', o2', cs ++ [c], rfl, hd', ?_, fun c' hc' => ?_, by rw [List.length_append, hl]; rfl⟩
      · rcases List.mem_cons.mp hp with rfl | hp
        · exact N' _ (.tail _ (.tail _ (.head _)))
        · rcases List.mem_cons.mp hp with rfl | hp
          · exact N' _ (.tail _ (.tail _ (.tail _ (.head _))))
          · rcases List.mem_cons.mp hp with rfl | hp
            · exact N' _ (.tail _ (.tail _ (.tail _ (.tail _ (.head _)))))
            · rcases List.mem_cons.mp hp with rfl | hp
              · exact N' _ (.head _)
              · rcases List.mem_cons.mp hp with rfl | hp
                · exact N' _ (.tail _ (.head _))
                · exact N' _ (.tail _ (.tail _ (.tail _ (.tail _ (.tail _ hp)))))
      · rcases List.mem_cons.mp hp with rfl | hp
        · exact offm (dk, o1) (.head _)
        · rcases List.mem_cons.mp hp with rfl | hp
          · exact offm (lc, o2) (.tail _ (.head _))
          · exact offm p (.tail _ (.tail _ hp))
      · have e : sgs (cs ++ [c]) = sgs cs ++ [⟨#[c]⟩] := by unfold sgs; rw [List.map_append]; rfl
        rw [e]
        exact StrsAre.append' hs (.cons _ t .nil)
      · rcases List.mem_append.mp hc' with z | z
        · exact hf c' z
        · rw [List.mem_singleton.mp z]; exact hc
  · rintro ys _ ⟨o1, o2, cs, rfl, hd, hs, hf, hl⟩
    exact fin ys cs o1 o2 hs hf hl hd
/-- the turns of the block that takes a text's codes -/
theorem codes_rest {elt : PySem.Expr} {x : Str} {scope : Scope} {cl : List (Str × Addr)} {S : Led → Prop} {row : Str} {Fin : List Value → Led → Prop} {news : Led} (hS : ∀ nw, S nw)
    (turn : ∀ c u I oI C oC D ys m₂ h tk (E' : Value → Shared → Prop), NsObj oC m₂ → m₂ x = some (.str ⟨#[c]⟩ u) → Fr h₀ L h m → News h₀ L h ((I, oI) :: (C, oC) :: (D, LCg.lst ys) :: news) → Off3 I C D news →
      wpAny (model prog w) A (eval elt (compEnvC scope cl C env)) (CodeEnd h₀ L m s ((I, oI) :: (C, oC) :: (D, LCg.lst ys) :: news) c) E' { s with heap := h, toks := tk })
    (fin : ∀ ys, IntsAre ys (codesOf row) → Fin ys news) : CompRest prog w A h₀ L m env elt x scope cl s S (SignAt row) Fin row.cps.size 0 [] news := by
  refine rest_inv (fun i ys nw => nw = news ∧ IntsAre ys ((row.cps.toList.take i).map Int.ofNat)) ⟨rfl, .nil⟩ ?_ ?_
  · rintro i ys _ hi ⟨rfl, hs⟩ v I oI C oC D m₂ h tk E' ⟨c, u, hc, rfl⟩ hC hx F N off ne
    refine wpAny_mono (turn c u I oI C oC D ys m₂ h tk E' hC hx F N off) (fun y s₂ hq => ?_) fun _ _ e => e
    obtain ⟨h', tk', rfl, F', N', t, rfl⟩ := hq
    refine ⟨h', tk', _, rfl, F', N', off, hS _, rfl, ?_⟩
    rw [← Array.getElem?_toList] at hc
    rw [List.take_add_one, hc]
    have e : (List.take i row.cps.toList ++ (some c).toList).map Int.ofNat = (List.take i row.cps.toList).map Int.ofNat ++ [(c : Int)] := by
      rw [List.map_append]; rfl
    rw [e]
    exact IntsAre.append hs (.cons _ t .nil)
  · rintro ys _ ⟨rfl, hs⟩
    rw [List.take_of_length_le (Nat.le_of_eq Array.length_toList)] at hs
    exact fin ys hs
end
end
-- G6
noncomputable section
set_option maxRecDepth 100000

theorem ready {w : World} {g h : Heap} {L dk lc c v t : Addr} {o1 o2 oc : Obj} {nx all nxT : Led} {codes : List Int} (N : News g L h (nx ++ all)) (sub : ∀ p ∈ (dk, o1) :: (lc, o2) :: (c, oc) :: nxT, p ∈ all) (hO : Off2 dk lc ((c, oc) :: nxT)) (hV : ViewLed codes v nx) (hNew : ∀ p ∈ nx, ∀ q ∈ all, p.1 ≠ q.1) (hT : TabDone w t nxT) :
    ∃ (e : Ar) (rest : Led), e.v = v ∧ e.t = t ∧ News g L h ((dk, o1) :: (lc, o2) :: (c, oc) :: rest) ∧ Off2 dk lc ((c, oc) :: rest) ∧ ∀ g L h, News g L h rest → IsAr w codes e h := by
  obtain ⟨x40, x41, x97, x32, hT, _⟩ := hT
  refine ⟨⟨v, t, x40, x41, x97, x32⟩, nx ++ nxT, rfl, rfl, fun p hp => ?_, fun p hp => ?_, fun g L h N => ⟨view_is hV (fun p hp => N p (List.mem_append_left _ hp)), hT v g L h (fun p hp => N p (List.mem_append_right _ hp))⟩⟩
  · rcases List.mem_cons.mp hp with rfl | hp
    · exact N _ (List.mem_append_right _ (sub _ (.head _)))
    · rcases List.mem_cons.mp hp with rfl | hp
      · exact N _ (List.mem_append_right _ (sub _ (.tail _ (.head _))))
      · rcases List.mem_cons.mp hp with rfl | hp
        · exact N _ (List.mem_append_right _ (sub _ (.tail _ (.tail _ (.head _)))))
        · exact (List.mem_append.mp hp).elim (fun z => N _ (List.mem_append_left _ z)) (fun z => N _ (List.mem_append_right _ (sub _ (.tail _ (.tail _ (.tail _ z))))))
  · rcases List.mem_cons.mp hp with rfl | hp
    · exact hO _ (.head _)
    · rcases List.mem_append.mp hp with hp | hp
      · exact ⟨hNew p hp _ (sub _ (.head _)), hNew p hp _ (sub _ (.tail _ (.head _)))⟩
      · exact hO _ (.tail _ hp)
/-- what the law's own frame holds in the loop -/
noncomputable def LawNs (row : Str) (e : Ar) (m : Str → Option Value) : Prop := (∃ rt, m (Str.ofString "row") = some (.str row rt)) ∧ m (Str.ofString "view") = some (.ref e.v) ∧ m (Str.ofString "table") = some (.ref e.t)
noncomputable def LawEnd (h₀ : Heap) (L : Addr) (s : Shared) (Q : Flow → Shared → Prop) (row : Str) (e : Ar) (dk lc : Addr) (X : Led) (f : Flow) (s' : Shared) : Prop :=
  match f with
  | .ret v => Q (.ret v) s'
  | .brk => Q .next s'
  | _ => ∃ h' tk m₂ o1' o2', s' = { s with heap := h', toks := tk } ∧ Fr h₀ L h' m₂ ∧ News h₀ L h' ((dk, o1') :: (lc, o2') :: X) ∧ LawNs row e m₂ ∧ Deck2 dk lc o1' o2'
theorem law_end {h₀ h' : Heap} {L : Addr} {s : Shared} {Q : Flow → Shared → Prop} {row : Str} {e : Ar} {dk lc : Addr} {X : Led} {tk : Nat} {m₂ : Str → Option Value} {o1' o2' : Obj} (F : Fr h₀ L h' m₂) (N : News h₀ L h' ((dk, o1') :: (lc, o2') :: X)) (hm : LawNs row e m₂) (hD : Deck2 dk lc o1' o2') :
    LawEnd h₀ L s Q row e dk lc X .next { s with heap := h', toks := tk } := ⟨h', tk, m₂, o1', o2', rfl, F, N, hm, hD⟩
theorem law_rest {prog : Program} {w : World} {A : Around} {E : Value → Shared → Prop} {s₂ : Shared} {h₀ : Heap} {m : Str → Option Value} {env : Env} {body : List Stmt} {Q : Flow → Shared → Prop} {P : Nat → Value → Prop} {n : Nat} {dk lc c : Addr} {o1 o2 oc : Obj} {rest : Led} {row : Str} {e : Ar} {x : Str}
    (hD : Deck2 dk lc o1 o2) (hO : Off2 dk lc ((c, oc) :: rest)) (hm : LawNs row e m)
    (turn : ∀ (QQ : Flow → Shared → Prop) (EE : Value → Shared → Prop) v m₁ o1 o2 h tk I oI, LawNs row e m₁ → Deck2 dk lc o1 o2 → Fr h₀ env.locals h (fun y => if y = x then some v else m₁ y) → News h₀ env.locals h ((dk, o1) :: (lc, o2) :: (I, oI) :: (c, oc) :: rest) → Off2 dk lc ((I, oI) :: (c, oc) :: rest) →
      wpAny (model prog w) A (execs body env) (LawEnd h₀ env.locals { s₂ with heap := h, toks := tk } QQ row e dk lc ((I, oI) :: (c, oc) :: rest)) EE { s₂ with heap := h, toks := tk })
    (fin : ∀ h' tk m' o1 o2, Fr h₀ env.locals h' m' → News h₀ env.locals h' ((dk, o1) :: (lc, o2) :: (c, oc) :: rest) → Q .next { s₂ with heap := h', toks := tk }) :
    ForRest prog w A h₀ env m x body Q E s₂ P n ((dk, o1) :: (lc, o2) :: (c, oc) :: rest) := by
  refine ⟨fun _ m news => LawNs row e m ∧ ∃ o1 o2, news = (dk, o1) :: (lc, o2) :: (c, oc) :: rest ∧ Deck2 dk lc o1 o2, ⟨hm, o1, o2, rfl, hD⟩, ?_, ?_⟩
  · rintro i v m₁ _ h tk I oI hi hP ⟨hm, o1, o2, rfl, hD⟩ off F N _
    refine wpAny_mono (turn Q E v m₁ o1 o2 h tk I oI hm hD F (fun p hp => ?_) (fun p hp => ?_)) (fun f s₃ h₃ => ?_) fun _ _ e => e
    · rcases List.mem_cons.mp hp with rfl | hp
      · exact N _ (.tail _ (.head _))
      · rcases List.mem_cons.mp hp with rfl | hp
        · exact N _ (.tail _ (.tail _ (.head _)))
        · rcases List.mem_cons.mp hp with rfl | hp
          · exact N _ (.head _)
          · exact N _ (.tail _ (.tail _ (.tail _ hp)))
    · rcases List.mem_cons.mp hp with rfl | hp
      · exact ⟨fun z => off _ (.head _) z.symm, fun z => off _ (.tail _ (.head _)) z.symm⟩
      · exact hO p hp
    · have step : (∃ h' tk' m₂ o1' o2', s₃ = { ({ s₂ with heap := h, toks := tk } : Shared) with heap := h', toks := tk' } ∧ Fr h₀ env.locals h' m₂ ∧ News h₀ env.locals h' ((dk, o1') :: (lc, o2') :: (I, oI) :: (c, oc) :: rest) ∧ LawNs row e m₂ ∧ Deck2 dk lc o1' o2') →
          ∃ h' tk' m₂ news₂, s₃ = { ({ s₂ with heap := h, toks := tk } : Shared) with heap := h', toks := tk' } ∧ Fr h₀ env.locals h' m₂ ∧ News h₀ env.locals h' ((I, oI) :: news₂) ∧ (∀ p ∈ news₂, p.1 ≠ I) ∧ LawNs row e m₂ ∧ ∃ o1 o2, news₂ = (dk, o1) :: (lc, o2) :: (c, oc) :: rest ∧ Deck2 dk lc o1 o2 := by
        rintro ⟨h', tk', m₂, o1', o2', rfl, F', N', hm', hD'⟩
        refine ⟨h', tk', m₂, (dk, o1') :: (lc, o2') :: (c, oc) :: rest, rfl, F', fun p hp => ?_, fun p hp => ?_, hm', o1', o2', rfl, hD'⟩
        · rcases List.mem_cons.mp hp with rfl | hp
          · exact N' _ (.tail _ (.tail _ (.head _)))
          · rcases List.mem_cons.mp hp with rfl | hp
            · exact N' _ (.head _)
            · rcases List.mem_cons.mp hp with rfl | hp
              · exact N' _ (.tail _ (.head _))
              · exact N' _ (.tail _ (.tail _ (.tail _ hp)))
        · exact off_map (b := (dk, o1') :: (lc, o2') :: (c, oc) :: rest) off rfl p hp
      cases f with
      | ret v => exact h₃
      | brk => exact h₃
      | cont => exact step h₃
      | next => exact step h₃
  · rintro h' tk m' _ F N ⟨hm, o1, o2, rfl, hD⟩
    exact fin h' tk m' o1 o2 F N
theorem law_rest2 {w : World} {E : Value → Shared → Prop} {s₂ : Shared} {h₀ : Heap} {m : Str → Option Value} {body : List Stmt} {Q : Flow → Shared → Prop} {P : Nat → Value → Prop} {n : Nat} {dk lc c : Addr} {o1 o2 oc : Obj} {rest : Led} {row : Str} {e : Ar} {x : Str}
    {dp un : Nat} {gd : Option (List Code)} {cn : Str} {cs : Scope} {L a : Addr} {ccd : Value} {cl : List (Str × Addr)} {A₀ : Around} {base : Heap}
    (B : Below A₀ base [] h₀) (hdp : dp + 20 < recursionLimit) (hun : un + 400 < cLine) (hD : Deck2 dk lc o1 o2) (hO : Off2 dk lc ((c, oc) :: rest)) (hm : LawNs row e m)
    (turn : ∀ (A₀ : Around) (base : Heap) (dp un : Nat) (gd : Option (List Code)) (QQ : Flow → Shared → Prop) (EE : Value → Shared → Prop) v m₁ o1 o2 h tk I oI, Below A₀ base [] h₀ → dp + 20 < recursionLimit → un + 400 < cLine → LawNs row e m₁ → Deck2 dk lc o1 o2 → Fr h₀ L h (fun y => if y = x then some v else m₁ y) → News h₀ L h ((dk, o1) :: (lc, o2) :: (I, oI) :: (c, oc) :: rest) → Off2 dk lc ((I, oI) :: (c, oc) :: rest) →
      wpAny (model Pg w) (ktrTop dp un gd cn cs L a ccd cl []) (execs body (envX cn cs L a ccd cl)) (LawEnd h₀ L { s₂ with heap := h, toks := tk } QQ row e dk lc ((I, oI) :: (c, oc) :: rest)) EE { s₂ with heap := h, toks := tk })
    (fin : ∀ h' tk m' o1 o2, Fr h₀ L h' m' → News h₀ L h' ((dk, o1) :: (lc, o2) :: (c, oc) :: rest) → Q .next { s₂ with heap := h', toks := tk }) :
    ForRest Pg w (ktrTop dp un gd cn cs L a ccd cl []) h₀ (envX cn cs L a ccd cl) m x body Q E s₂ P n ((dk, o1) :: (lc, o2) :: (c, oc) :: rest) :=
  law_rest hD hO hm (fun QQ EE v m₁ o1 o2 h tk I oI hm hD F N off => turn A₀ base dp un gd QQ EE v m₁ o1 o2 h tk I oI B hdp hun hm hD F N off) fin
/-- the program's answer, asked for in the law's frame: what stands there stays -/
theorem told_keep {w : World} {codes : List Int} {e : Ar} {at_ count d : Int} {ta tb tc : Tok} {i : Bool} {led : Led} (hc : Codes codes) (hp : 1 ≤ at_ ∧ at_ ≤ 1 + codes.length)
    {mean : ExcName → Option Value} {mg mb : Str → Option Value} {dp un : Nat} {gd : Option (List Code)} {cn : Str} {cs : Scope} {a : Addr} {ccd : Value} {cl : List (Str × Addr)} {A₀ : Around} {base h₀ : Heap} {L : Addr} {m : Str → Option Value} {s : Shared} {Q E : Value → Shared → Prop}
    (B : Below A₀ base [] h₀) (F : Fr h₀ L s.heap m) (X : (K w.params).In h₀) (N : News h₀ L s.heap led) (T : Tp mean mg mb h₀) (hk : cs.kind = .function) (hP : IsAr w codes e s.heap) (hd : dp + 15 < recursionLimit) (hu : un + 300 < cLine)
    (hret : ∀ tp items n h' tk', Fr h₀ L h' m → News h₀ L h' ((tp, { cls := .type "tuple", data := .seq items n }) :: led) → ToldIs (resOf codes at_ count d i) items.toList → Q (.ref tp) { s with heap := h', toks := tk' }) :
    wpAny (model Pg w) (ktrTop dp un gd cn cs L a ccd cl []) (call (.ref 693) [.ref e.v, .ref e.t, .int at_ ta, .int count tb, .int d tc, .bool i]) Q E s :=
  told hc hp B F X T hk hP hd hu fun tp items n h' tk' F' N' kp hT => hret tp items n h' tk' F' (fun p hp => by
    rcases List.mem_cons.mp hp with rfl | hp
    · exact N' _ (.head _)
    · exact ⟨kp _ _ (N p hp).1 (N p hp).2.1, (N p hp).2⟩) hT
end
-- G7
noncomputable section
set_option maxRecDepth 100000
open PySem.SeqAt PyProof.V

noncomputable def resData : Res → PyData
  | .at_ p => .tuple [.str (Str.ofString "at"), .int p]
  | .none => .tuple [.str (Str.ofString "none")]
  | .soon a b => .tuple [.str (Str.ofString "Containing expression ends prematurely"), .int a, .int b]
  | .unbal a b => .tuple [.str (Str.ofString "Unbalanced parentheses"), .int a, .int b]
theorem reads_told {h : Heap} {a : Addr} {l : Array Value} {r : Res} (ht : IsTup h a l) (hT : ToldIs r l.toList) : ∃ as, Reads h (.ref a) (resData r) as := by
  obtain ⟨o, e, hc, n, hd⟩ := ht
  cases r with
  | at_ p => obtain ⟨t, u, q⟩ := hT; exact ⟨_, .tuple e hc hd (by rw [q]; exact .cons (.str _ _) (.cons (.int _ _) .nil))⟩
  | none => obtain ⟨t, q⟩ := hT; exact ⟨_, .tuple e hc hd (by rw [q]; exact .cons (.str _ _) .nil)⟩
  | soon x y => obtain ⟨t, u, v, q⟩ := hT; exact ⟨_, .tuple e hc hd (by rw [q]; exact .cons (.str _ _) (.cons (.int _ _) (.cons (.int _ _) .nil)))⟩
  | unbal x y => obtain ⟨t, u, v, q⟩ := hT; exact ⟨_, .tuple e hc hd (by rw [q]; exact .cons (.str _ _) (.cons (.int _ _) (.cons (.int _ _) .nil)))⟩
theorem res_shaped (r : Res) : PySem.SeqAt.shaped (resData r) = true := by
  cases r <;> simp [resData, PySem.SeqAt.shaped, PyData.canLay0, PyData.canLayAll0, PyData.depth, PyData.depthAll] <;> decide +kernel
theorem res_noMix (r : Res) : noMix (resData r) (resData r) = true := by
  cases r <;> simp [resData, noMix, noMixAll]
theorem res_same (r : Res) : PySem.Spec.same (resData r) (resData r) = true := by
  cases r <;> simp [resData, PySem.Spec.same, PySem.Spec.sameAll]
theorem ne_told {prog : Program} {w : World} {A : Around} {E : Value → Shared → Prop} {s : Shared} {a b : Addr} {r : Res} {l l' : Array Value} {Q : Value → Shared → Prop} (ha : IsTup s.heap a l) (hb : IsTup s.heap b l') (h1 : ToldIs r l.toList) (h2 : ToldIs r l'.toList) (hu : A.units + 64 < cLine) (h : Q (.bool false) s) :
    wpAny (model prog w) A (compareOp .NotEq (.ref a) (.ref b)) Q E s := by
  obtain ⟨as, ra⟩ := reads_told ha h1
  obtain ⟨bs, rb⟩ := reads_told hb h2
  refine ne_dataH_same ra rb (res_shaped r) (res_shaped r) hu (res_noMix r) ?_
  rw [res_same]
  exact h
end
-- Z3
noncomputable section
set_option maxRecDepth 100000


theorem news_swap {g h : Heap} {L : Addr} {a b : Led} (N : News g L h (a ++ b)) : News g L h (b ++ a) := fun p hp => N p ((List.mem_append.mp hp).elim (fun z => List.mem_append_right _ z) (fun z => List.mem_append_left _ z))
theorem same_obj {g h : Heap} {L a b : Addr} {oa ob : Obj} {led : Led} (N : News g L h led) (ha : (a, oa) ∈ led) (hb : (b, ob) ∈ led) (e : a = b) : oa = ob := by
  subst e
  exact Option.some.inj ((N _ ha).1.symm.trans (N _ hb).1)
theorem deck_data {dk lc : Addr} {o1 o2 : Obj} (h : Deck2 dk lc o1 o2) : (o1.cls = .type "list" ∧ ∃ a n, o1.data = .seq a n) ∧ o2.cls = .type "list" ∧ ∃ a n, o2.data = .seq a n := by
  obtain ⟨vs, ks, a, b, ta, tb, n, n2, e, _⟩ := h
  injection e with e1 e2
  injection e1 with _ e1
  injection e2 with e2 _
  injection e2 with _ e2
  subst e1 e2
  exact ⟨⟨rfl, _, _, rfl⟩, rfl, _, _, rfl⟩
theorem cell_apart {w : World} {g h : Heap} {L dk lc c t : Addr} {o1 o2 oc : Obj} {nx : Led} {v : Option Value} (N : News g L h ((dk, o1) :: (lc, o2) :: (c, oc) :: nx)) (hD : Deck2 dk lc o1 o2) (hT : TabDone w t nx) (hc : oc.data = .cell v) :
    (@Ne Nat dk c ∧ @Ne Nat lc c) ∧ ∀ p ∈ nx, p.1 ≠ c := by
  obtain ⟨⟨_, a1, n1, d1⟩, _, a2, n2, d2⟩ := deck_data hD
  obtain ⟨_, _, _, _, _, hn⟩ := hT
  refine ⟨⟨fun z => ?_, fun z => ?_⟩, fun p hp z => ?_⟩
  · have := same_obj N (.head _) (.tail _ (.tail _ (.head _))) z
    rw [this, hc] at d1; cases d1
  · have := same_obj N (.tail _ (.head _)) (.tail _ (.tail _ (.head _))) z
    rw [this, hc] at d2; cases d2
  · have := same_obj N (a := p.1) (oa := p.2) (.tail _ (.tail _ (.tail _ hp))) (.tail _ (.tail _ (.head _))) z
    exact (hn p hp).2 v (this ▸ hc)
theorem news_tail {g h : Heap} {L : Addr} {p : Addr × Obj} {l : Led} (N : News g L h (p :: l)) : News g L h l := fun q hq => N q (.tail _ hq)
theorem off_rest {w : World} {g h : Heap} {L dk lc c t : Addr} {o1 o2 oc : Obj} {nx : Led} {v : Option Value} (N : News g L h ((dk, o1) :: (lc, o2) :: (c, oc) :: nx)) (hD : Deck2 dk lc o1 o2) (hT : TabDone w t nx) (hc : oc.data = .cell v) : Off2 dk lc ((c, oc) :: nx) := by
  obtain ⟨⟨c1, _⟩, c2, _⟩ := deck_data hD
  obtain ⟨⟨a1, a2⟩, _⟩ := cell_apart N hD hT hc
  obtain ⟨_, _, _, _, _, hn⟩ := hT
  intro p hp
  rcases List.mem_cons.mp hp with rfl | hp
  · exact ⟨fun z => a1 z.symm, fun z => a2 z.symm⟩
  · refine ⟨fun z => ?_, fun z => ?_⟩
    · have := same_obj N (a := p.1) (oa := p.2) (.tail _ (.tail _ (.tail _ hp))) (.head _) z
      exact (hn p hp).1 (this ▸ c1)
    · have := same_obj N (a := p.1) (oa := p.2) (.tail _ (.tail _ (.tail _ hp))) (.tail _ (.head _)) z
      exact (hn p hp).1 (this ▸ c2)
theorem row_codes {cs : List Nat} {row : Str} (hr : (⟨cs.toArray⟩ : Str) = row) (hf : ∀ c ∈ cs, FourN c) (hl : cs.length ≤ 16) : Codes (codesOf row) ∧ row.length = cs.length := by
  subst hr
  have e : codesOf ⟨cs.toArray⟩ = cs.map Int.ofNat := by unfold codesOf; rw [List.toList_toArray]
  refine ⟨⟨by rw [e, List.length_map]; omega, fun c hc => ?_⟩, List.size_toArray ..⟩
  rw [e] at hc
  obtain ⟨k, hk, rfl⟩ := List.mem_map.mp hc
  rcases hf k hk with rfl | rfl | rfl | rfl
  · exact .inl rfl
  · exact .inr (.inl rfl)
  · exact .inr (.inr (.inl rfl))
  · exact .inr (.inr (.inr rfl))
theorem due_told0 {c : List Int} {a k d x : Int} {l : List Value} (hx : x = 0) (h : ToldIs (scanR c a k 0 (x == 0)) l) : ToldIs (resOf c a k d (x == 0)) l := by
  subst hx
  exact h
theorem due_told1 {c : List Int} {a k d x : Int} {l : List Value} (hx : ¬ x = 0) (h : ToldIs (scanR c a k d (x == 0)) l) : ToldIs (resOf c a k d (x == 0)) l := by
  have e : (x == 0) = false := beq_eq_false_iff_ne.mpr hx
  rw [e] at h ⊢
  exact h
theorem due_at {x : Int} {n : Nat} (h0 : 0 ≤ x) (h1 : x < (n : Int) + 1) : 1 ≤ 1 + x ∧ 1 + x ≤ 1 + (n : Int) := ⟨by omega, by omega⟩
theorem due_ct {x : Int} (h0 : 0 ≤ x) (h1 : x < 7) : -3 ≤ x - 3 ∧ x - 3 ≤ 3 := ⟨by omega, by omega⟩
theorem draw_many {n : Nat} (h1 : 4 ≤ n) (h2 : n ≤ 16) : 2 ≤ (n : Int) + 1 ∧ (n : Int) + 1 ≤ 20 := ⟨by omega, by omega⟩
theorem len63 {vs : List Value} {ks : List Int} (h : IntsAre vs ks) (hn : ¬ ((63 : Nat) : Int) < (ks.length : Int)) : vs.length ≤ 63 := by
  have := h.length
  omega
local macro_rules | `(tactic| k_all) => `(tactic| assumption)
theorem glA : PySem.W.namesOk qv (PySem.W.looseW qv lo) (PySem.W.namesW qv lo) = true := by rewrite [PySem.W.Fast.te17448422675489707002, PySem.W.Fast.te821141287760084731]; kernel_rfl
theorem glB : PyProof.Rows.importsNone qv = true := by rewrite [PySem.W.Fast.te2458874890965802552]; kernel_rfl
local macro_rules | `(tactic| k_qdec) => `(tactic| first | with_reducible exact glB | with_reducible exact glA | fail "none")
set_option maxHeartbeats 16000000 in
theorem top_try : rw1.Holds := by
  refine hd (d := _) (kwd := _) rfl rfl rfl ?_
  k_go0
  all_goals try k_fold
  (rename Heap.IsList _ _ _ => hL9; rename IntsAre _ _ => hI9; rename ¬ _ => hn9)
  have hl8 := len63 hI9 hn9
  (repeat' (first | (k_unfold; (try dsimp only)) | (k_end; kc_close) | ((with_reducible show wpAny _ _ (execs (_ :: _) _) _ _ _); (with_reducible refine wpAny_execs_cons ?_); first | k_fold | (try dsimp only)) | (k_closed; first | ((with_reducible refine ite_pos ?_ ?_); (focus (k_dflt decide))) | ((with_reducible refine ite_neg ?_ ?_); (focus (k_dflt decide)))) | ((with_reducible show wpAny _ _ (call (.ref _) _) _ _ _); first | ((with_reducible show wpAny _ _ (call (.ref 693) _) _ _ _); (refine halt ?_)) | ((with_reducible show wpAny _ _ (call (.ref 686) _) _ _ _); (k_dflt (refine' Does.nil (law_due_does _ _ _ _ _ _ _ _ _ _ ?hl ?hc ?hp ?hct) ?uB ?uF ?uX ?uN ?uT ?uk ?uP ?ud ?uu ?_; walk_at "mine:n"; (case hl => assumption); (case hc => assumption); (case hp => exact due_at (by assumption) (by assumption)); (case hct => exact due_ct (by assumption) (by assumption)); k_whole; intro rZ nxZ hZ tkZ FZ NZ hrZ; (try dsimp only at hrZ); ((obtain ⟨tpZ, itemsZ, nZ, hr1Z, hnxZ, hTZ⟩ := hrZ); subst hr1Z; subst hnxZ); walk_at "mine:f"))) | ((with_reducible show wpAny _ _ (call (.ref 639) _) _ _ _); (refine halt ?_)) | ((with_reducible show wpAny _ _ (call (.ref 655) _) _ _ _); (k_dflt (refine' call_draw ?uB ?uF ?uX ?uN ?uT ?uk ?ud ?uo ?um ?u1 ?u2 ?_; (case uB => k_asm); (case uF => k_asm); (case uX => k_asm); (case uN => first | k_asm | exact news_tail (by k_asm)); (case uT => k_asm); (case uk => exact rfl); (case ud => assumption); (case uo => assumption); (case um => first | assumption | exact ⟨by decide, by decide⟩); (case u1 => ktr_room); (case u2 => ktr_units); k_whole; intro xZ tZ o1Z o2Z hZ tkZ hx1Z hx2Z FZ NZ hDZ; (try dsimp only)))) | ((with_reducible show wpAny _ _ (call (.ref 660) _) _ _ _); (k_dflt (refine' Does.nil (law_many_does _ _ _ _ _ _ ?hi ?hl) ?uB ?uF ?uX ?uN ?uT ?uk ?uP ?ud ?uu ?_; walk_at "mine:n"; (case hi => assumption); (case hl => assumption); k_whole; intro rZ nxZ hZ tkZ FZ NZ hrZ; (try dsimp only at hrZ); ((obtain ⟨hn9, xZ, ⟨t9Z, hr9⟩, hx1Z, hx2Z⟩ := hrZ); subst hn9; subst hr9); walk_at "mine:f"))) | ((with_reducible show wpAny _ _ (call (.ref 243) _) _ _ _); (k_dflt (refine' Does.nil (standard_table_does _) ?uB ?uF ?uX ?uN ?uT ?uk ?uP ?ud ?uu ?_; walk_at "mine:n"; k_whole; intro rZ nxZ hZ tkZ FZ NZ hrZ; (try dsimp only at hrZ); ((obtain ⟨tZ, hr9, hTZ⟩ := hrZ; subst hr9; have N9Z := news_swap NZ; clear NZ; have NZ := N9Z; clear N9Z; (try simp only [List.cons_append, List.nil_append] at NZ); (obtain ⟨⟨hq1, hq2⟩, hq3⟩ := cell_apart NZ (by assumption) hTZ (by assumption)))); walk_at "mine:f"))) | ((with_reducible show wpAny _ _ (call (.ref 648) _) _ _ _); (k_dflt (refine' Does.nil (law_deck_does _ _ _ _ ?hi ?hl) ?uB ?uF ?uX ?uN ?uT ?uk ?uP ?ud ?uu ?_; walk_at "mine:n"; (case hi => assumption); (case hl => assumption); k_whole; intro rZ nxZ hZ tkZ FZ NZ hrZ; (try dsimp only at hrZ); ((obtain ⟨dkZ, lcZ, hr9, hD9⟩ := hrZ; obtain ⟨o1Z, o2Z, hn9, hDZ⟩ := deck_two hD9; subst hr9; subst hn9; clear hD9)); walk_at "mine:f")))) | ((with_reducible show wpAny _ _ (compareOp .NotEq (.ref _) (.ref _)) _ _ _); (refine halt ?_)) | ((with_reducible show wpAny _ _ (exec (.For _ _ _ _ _) _) _ _ _); (refine halt ?_)) | ((with_reducible show wpAny _ _ (exec (.For _ _ _ _ _) _) _ _ _); (refine halt ?_)) | ((with_reducible show wpAny _ _ (exec (.For _ _ _ _ _) _) _ _ _); (refine halt ?_)) | ((with_reducible show wpAny _ _ (call (.builtin "len") _) _ _ _); (k_here; (with_reducible show wpAny _ _ (call (Value.builtin "len") [Value.str _ _]) _ _ _); k_dflt (refine' len_row ?qf ?_; (case qf => assumption); k_whole))) | ((with_reducible show wpAny _ _ (call (.builtin "str.join") _) _ _ _); (k_here; k_dflt (refine' join_sgs ?hl ?hi ?hx ?hw ?hr ?_; (case hl => exact News.isList (by k_asm) (by k_mem)); (case hi => assumption); (case hx => rfl); (case hw => assumption); (case hr => assumption)); intro tZ kZ)) | ((with_reducible show wpAny _ _ (eval (.ListComp _ _ _ _) _) _ _ _); (k_here; k_dflt (refine ListComp_W (F₀ := by k_asm) (by with_unfolding_all rfl) (by decide) (by rfl) (by decide) (by rfl) ?_))) | ((with_reducible show wpAny _ _ (eval (.Name _ _) _) _ _ _); (k_here; k_dflt (refine' nameX_L ?qF ?qv ?_ ?qa ?qb; (case qF => k_asm); (case qa => rfl); (case qb => rfl); (case qv => first | exact rfl | assumption); k_whole))) | ((with_reducible show wpAny _ _ (exec (.For _ _ _ _ _) _) _ _ _); (refine halt ?_)) | walk1 | (dsimp only; with_reducible show wpAny _ _ (call (.ref _) _) _ _ _) | (dsimp only; walk1) | (leave1; (try dsimp only))))
  all_goals (try k_data)
  (rename IsRange _ _ _ _ _ _ _ _ => hR9; rename Deck2 _ _ _ _ => hD9; rename TabDone _ _ _ => hT9; rename News _ _ _ _ => N9; rename Obj.data _ = Data.cell (some _) => hC9; rename (4 : Int) ≤ _ => hx8; rename _ ≤ (16 : Int) => hx9)
  have N8 := news_tail N9
  have hO := off_rest N8 hD9 hT9 hC9
  refine SrcG.range (by rfl) (by assumption) N8 hR9 (small_one (by decide) (by decide) (by omega) (by omega)) (rangeSize_nat _ _) (by rw [sizeLine_eq]; omega) ?_
  intro g2
  refine row_rest (fun _ => trivial) hD9 hO ?_ ?_
  · intro v o1 o2 I oI C oC D ys m₂ h tk E' hD hC hx F₁ N₁ off
    (repeat' (first | (k_unfold; (try dsimp only)) | (k_end; kc_close) | ((with_reducible show wpAny _ _ (execs (_ :: _) _) _ _ _); (with_reducible refine wpAny_execs_cons ?_); first | k_fold | (try dsimp only)) | (k_closed; first | ((with_reducible refine ite_pos ?_ ?_); (focus (k_dflt decide))) | ((with_reducible refine ite_neg ?_ ?_); (focus (k_dflt decide)))) | ((with_reducible show wpAny _ _ (call (.ref _) _) _ _ _); first | ((with_reducible show wpAny _ _ (call (.ref 693) _) _ _ _); (refine halt ?_)) | ((with_reducible show wpAny _ _ (call (.ref 686) _) _ _ _); (k_dflt (refine' Does.nil (law_due_does _ _ _ _ _ _ _ _ _ _ ?hl ?hc ?hp ?hct) ?uB ?uF ?uX ?uN ?uT ?uk ?uP ?ud ?uu ?_; walk_at "mine:n"; (case hl => assumption); (case hc => assumption); (case hp => exact due_at (by assumption) (by assumption)); (case hct => exact due_ct (by assumption) (by assumption)); k_whole; intro rZ nxZ hZ tkZ FZ NZ hrZ; (try dsimp only at hrZ); ((obtain ⟨tpZ, itemsZ, nZ, hr1Z, hnxZ, hTZ⟩ := hrZ); subst hr1Z; subst hnxZ); walk_at "mine:f"))) | ((with_reducible show wpAny _ _ (call (.ref 639) _) _ _ _); (refine halt ?_)) | ((with_reducible show wpAny _ _ (call (.ref 655) _) _ _ _); (k_dflt (refine' call_draw ?uB ?uF ?uX ?uN ?uT ?uk ?ud ?uo ?um ?u1 ?u2 ?_; (case uB => k_asm); (case uF => k_asm); (case uX => k_asm); (case uN => first | k_asm | exact news_tail (by k_asm)); (case uT => k_asm); (case uk => exact rfl); (case ud => assumption); (case uo => assumption); (case um => first | assumption | exact ⟨by decide, by decide⟩); (case u1 => ktr_room); (case u2 => ktr_units); k_whole; intro xZ tZ o1Z o2Z hZ tkZ hx1Z hx2Z FZ NZ hDZ; (try dsimp only)))) | ((with_reducible show wpAny _ _ (call (.ref 660) _) _ _ _); (k_dflt (refine' Does.nil (law_many_does _ _ _ _ _ _ ?hi ?hl) ?uB ?uF ?uX ?uN ?uT ?uk ?uP ?ud ?uu ?_; walk_at "mine:n"; (case hi => assumption); (case hl => assumption); k_whole; intro rZ nxZ hZ tkZ FZ NZ hrZ; (try dsimp only at hrZ); ((obtain ⟨hn9, xZ, ⟨t9Z, hr9⟩, hx1Z, hx2Z⟩ := hrZ); subst hn9; subst hr9); walk_at "mine:f"))) | ((with_reducible show wpAny _ _ (call (.ref 243) _) _ _ _); (k_dflt (refine' Does.nil (standard_table_does _) ?uB ?uF ?uX ?uN ?uT ?uk ?uP ?ud ?uu ?_; walk_at "mine:n"; k_whole; intro rZ nxZ hZ tkZ FZ NZ hrZ; (try dsimp only at hrZ); ((obtain ⟨tZ, hr9, hTZ⟩ := hrZ; subst hr9; have N9Z := news_swap NZ; clear NZ; have NZ := N9Z; clear N9Z; (try simp only [List.cons_append, List.nil_append] at NZ); (obtain ⟨⟨hq1, hq2⟩, hq3⟩ := cell_apart NZ (by assumption) hTZ (by assumption)))); walk_at "mine:f"))) | ((with_reducible show wpAny _ _ (call (.ref 648) _) _ _ _); (k_dflt (refine' Does.nil (law_deck_does _ _ _ _ ?hi ?hl) ?uB ?uF ?uX ?uN ?uT ?uk ?uP ?ud ?uu ?_; walk_at "mine:n"; (case hi => assumption); (case hl => assumption); k_whole; intro rZ nxZ hZ tkZ FZ NZ hrZ; (try dsimp only at hrZ); ((obtain ⟨dkZ, lcZ, hr9, hD9⟩ := hrZ; obtain ⟨o1Z, o2Z, hn9, hDZ⟩ := deck_two hD9; subst hr9; subst hn9; clear hD9)); walk_at "mine:f")))) | ((with_reducible show wpAny _ _ (compareOp .NotEq (.ref _) (.ref _)) _ _ _); (refine halt ?_)) | ((with_reducible show wpAny _ _ (exec (.For _ _ _ _ _) _) _ _ _); (refine halt ?_)) | ((with_reducible show wpAny _ _ (exec (.For _ _ _ _ _) _) _ _ _); (refine halt ?_)) | ((with_reducible show wpAny _ _ (exec (.For _ _ _ _ _) _) _ _ _); (refine halt ?_)) | ((with_reducible show wpAny _ _ (call (.builtin "len") _) _ _ _); (k_here; (with_reducible show wpAny _ _ (call (Value.builtin "len") [Value.str _ _]) _ _ _); k_dflt (refine' len_row ?qf ?_; (case qf => assumption); k_whole))) | ((with_reducible show wpAny _ _ (call (.builtin "str.join") _) _ _ _); (k_here; k_dflt (refine' join_sgs ?hl ?hi ?hx ?hw ?hr ?_; (case hl => exact News.isList (by k_asm) (by k_mem)); (case hi => assumption); (case hx => rfl); (case hw => assumption); (case hr => assumption)); intro tZ kZ)) | ((with_reducible show wpAny _ _ (eval (.ListComp _ _ _ _) _) _ _ _); (k_here; k_dflt (refine ListComp_W (F₀ := by k_asm) (by with_unfolding_all rfl) (by decide) (by rfl) (by decide) (by rfl) ?_))) | ((with_reducible show wpAny _ _ (eval (.Name _ _) _) _ _ _); (k_here; k_dflt (refine' nameX_L ?qF ?qv ?_ ?qa ?qb; (case qF => k_asm); (case qa => rfl); (case qb => rfl); (case qv => first | exact rfl | assumption); k_whole))) | ((with_reducible show wpAny _ _ (exec (.For _ _ _ _ _) _) _ _ _); (refine halt ?_)) | walk1 | (dsimp only; with_reducible show wpAny _ _ (call (.ref _) _) _ _ _) | (dsimp only; walk1) | (leave1; (try dsimp only))))
    obtain ⟨c9, e9, f9⟩ := item_four (by assumption) (by assumption)
    rw [e9]
    refine' ⟨_, _, _, _, rfl, ?zF, ?zN, ?zD, c9, _, rfl, f9⟩
    (case zF => assumption)
    (case zN => assumption)
    (case zD => assumption)
  · intro ys cs o1 o2 hs hf hl hD
    have hw9 : cs.length ≤ 100 := by omega
    obtain ⟨row, hrow⟩ : ∃ R : Str, (⟨cs.toArray⟩ : Str) = R := ⟨_, rfl⟩
    obtain ⟨hcs, hlen⟩ := row_codes hrow hf (by omega)
    (repeat' (first | (k_unfold; (try dsimp only)) | (k_end; kc_close) | ((with_reducible show wpAny _ _ (execs (_ :: _) _) _ _ _); (with_reducible refine wpAny_execs_cons ?_); first | k_fold | (try dsimp only)) | (k_closed; first | ((with_reducible refine ite_pos ?_ ?_); (focus (k_dflt decide))) | ((with_reducible refine ite_neg ?_ ?_); (focus (k_dflt decide)))) | ((with_reducible show wpAny _ _ (call (.ref _) _) _ _ _); first | ((with_reducible show wpAny _ _ (call (.ref 693) _) _ _ _); (refine halt ?_)) | ((with_reducible show wpAny _ _ (call (.ref 686) _) _ _ _); (k_dflt (refine' Does.nil (law_due_does _ _ _ _ _ _ _ _ _ _ ?hl ?hc ?hp ?hct) ?uB ?uF ?uX ?uN ?uT ?uk ?uP ?ud ?uu ?_; walk_at "mine:n"; (case hl => assumption); (case hc => assumption); (case hp => exact due_at (by assumption) (by assumption)); (case hct => exact due_ct (by assumption) (by assumption)); k_whole; intro rZ nxZ hZ tkZ FZ NZ hrZ; (try dsimp only at hrZ); ((obtain ⟨tpZ, itemsZ, nZ, hr1Z, hnxZ, hTZ⟩ := hrZ); subst hr1Z; subst hnxZ); walk_at "mine:f"))) | ((with_reducible show wpAny _ _ (call (.ref 639) _) _ _ _); (refine halt ?_)) | ((with_reducible show wpAny _ _ (call (.ref 655) _) _ _ _); (k_dflt (refine' call_draw ?uB ?uF ?uX ?uN ?uT ?uk ?ud ?uo ?um ?u1 ?u2 ?_; (case uB => k_asm); (case uF => k_asm); (case uX => k_asm); (case uN => first | k_asm | exact news_tail (by k_asm)); (case uT => k_asm); (case uk => exact rfl); (case ud => assumption); (case uo => assumption); (case um => first | assumption | exact ⟨by decide, by decide⟩); (case u1 => ktr_room); (case u2 => ktr_units); k_whole; intro xZ tZ o1Z o2Z hZ tkZ hx1Z hx2Z FZ NZ hDZ; (try dsimp only)))) | ((with_reducible show wpAny _ _ (call (.ref 660) _) _ _ _); (k_dflt (refine' Does.nil (law_many_does _ _ _ _ _ _ ?hi ?hl) ?uB ?uF ?uX ?uN ?uT ?uk ?uP ?ud ?uu ?_; walk_at "mine:n"; (case hi => assumption); (case hl => assumption); k_whole; intro rZ nxZ hZ tkZ FZ NZ hrZ; (try dsimp only at hrZ); ((obtain ⟨hn9, xZ, ⟨t9Z, hr9⟩, hx1Z, hx2Z⟩ := hrZ); subst hn9; subst hr9); walk_at "mine:f"))) | ((with_reducible show wpAny _ _ (call (.ref 243) _) _ _ _); (k_dflt (refine' Does.nil (standard_table_does _) ?uB ?uF ?uX ?uN ?uT ?uk ?uP ?ud ?uu ?_; walk_at "mine:n"; k_whole; intro rZ nxZ hZ tkZ FZ NZ hrZ; (try dsimp only at hrZ); ((obtain ⟨tZ, hr9, hTZ⟩ := hrZ; subst hr9; have N9Z := news_swap NZ; clear NZ; have NZ := N9Z; clear N9Z; (try simp only [List.cons_append, List.nil_append] at NZ); (obtain ⟨⟨hq1, hq2⟩, hq3⟩ := cell_apart NZ (by assumption) hTZ (by assumption)))); walk_at "mine:f"))) | ((with_reducible show wpAny _ _ (call (.ref 648) _) _ _ _); (k_dflt (refine' Does.nil (law_deck_does _ _ _ _ ?hi ?hl) ?uB ?uF ?uX ?uN ?uT ?uk ?uP ?ud ?uu ?_; walk_at "mine:n"; (case hi => assumption); (case hl => assumption); k_whole; intro rZ nxZ hZ tkZ FZ NZ hrZ; (try dsimp only at hrZ); ((obtain ⟨dkZ, lcZ, hr9, hD9⟩ := hrZ; obtain ⟨o1Z, o2Z, hn9, hDZ⟩ := deck_two hD9; subst hr9; subst hn9; clear hD9)); walk_at "mine:f")))) | ((with_reducible show wpAny _ _ (compareOp .NotEq (.ref _) (.ref _)) _ _ _); (refine halt ?_)) | ((with_reducible show wpAny _ _ (exec (.For _ _ _ _ _) _) _ _ _); (refine halt ?_)) | ((with_reducible show wpAny _ _ (exec (.For _ _ _ _ _) _) _ _ _); (refine halt ?_)) | ((with_reducible show wpAny _ _ (exec (.For _ _ _ _ _) _) _ _ _); (refine halt ?_)) | ((with_reducible show wpAny _ _ (call (.builtin "len") _) _ _ _); (k_here; (with_reducible show wpAny _ _ (call (Value.builtin "len") [Value.str _ _]) _ _ _); k_dflt (refine' len_row ?qf ?_; (case qf => assumption); k_whole))) | ((with_reducible show wpAny _ _ (call (.builtin "str.join") _) _ _ _); (k_here; k_dflt (refine' join_sgs ?hl ?hi ?hx ?hw ?hr ?_; (case hl => exact News.isList (by k_asm) (by k_mem)); (case hi => assumption); (case hx => rfl); (case hw => assumption); (case hr => assumption)); intro tZ kZ)) | ((with_reducible show wpAny _ _ (eval (.ListComp _ _ _ _) _) _ _ _); (k_here; k_dflt (refine ListComp_W (F₀ := by k_asm) (by with_unfolding_all rfl) (by decide) (by rfl) (by decide) (by rfl) ?_))) | ((with_reducible show wpAny _ _ (eval (.Name _ _) _) _ _ _); (k_here; k_dflt (refine' nameX_L ?qF ?qv ?_ ?qa ?qb; (case qF => k_asm); (case qa => rfl); (case qb => rfl); (case qv => first | exact rfl | assumption); k_whole))) | ((with_reducible show wpAny _ _ (exec (.For _ _ _ _ _) _) _ _ _); (refine halt ?_)) | walk1 | (dsimp only; with_reducible show wpAny _ _ (call (.ref _) _) _ _ _) | (dsimp only; walk1) | (leave1; (try dsimp only))))
    all_goals (try k_data)
    refine SrcG.text (by rfl) (by assumption) (by assumption) ?zS ?_
    case zS =>
      rw [sizeLine_eq]
      have : row.cps.size = row.length := rfl
      omega
    intro g3
    refine codes_rest (fun _ => trivial) ?_ ?_
    · intro c u I oI C oC D ys m₂ h tk E' hC hx F₁ N₁ off
      (repeat' (first | (k_unfold; (try dsimp only)) | (k_end; kc_close) | ((with_reducible show wpAny _ _ (execs (_ :: _) _) _ _ _); (with_reducible refine wpAny_execs_cons ?_); first | k_fold | (try dsimp only)) | (k_closed; first | ((with_reducible refine ite_pos ?_ ?_); (focus (k_dflt decide))) | ((with_reducible refine ite_neg ?_ ?_); (focus (k_dflt decide)))) | ((with_reducible show wpAny _ _ (call (.ref _) _) _ _ _); first | ((with_reducible show wpAny _ _ (call (.ref 693) _) _ _ _); (refine halt ?_)) | ((with_reducible show wpAny _ _ (call (.ref 686) _) _ _ _); (k_dflt (refine' Does.nil (law_due_does _ _ _ _ _ _ _ _ _ _ ?hl ?hc ?hp ?hct) ?uB ?uF ?uX ?uN ?uT ?uk ?uP ?ud ?uu ?_; walk_at "mine:n"; (case hl => assumption); (case hc => assumption); (case hp => exact due_at (by assumption) (by assumption)); (case hct => exact due_ct (by assumption) (by assumption)); k_whole; intro rZ nxZ hZ tkZ FZ NZ hrZ; (try dsimp only at hrZ); ((obtain ⟨tpZ, itemsZ, nZ, hr1Z, hnxZ, hTZ⟩ := hrZ); subst hr1Z; subst hnxZ); walk_at "mine:f"))) | ((with_reducible show wpAny _ _ (call (.ref 639) _) _ _ _); (refine halt ?_)) | ((with_reducible show wpAny _ _ (call (.ref 655) _) _ _ _); (k_dflt (refine' call_draw ?uB ?uF ?uX ?uN ?uT ?uk ?ud ?uo ?um ?u1 ?u2 ?_; (case uB => k_asm); (case uF => k_asm); (case uX => k_asm); (case uN => first | k_asm | exact news_tail (by k_asm)); (case uT => k_asm); (case uk => exact rfl); (case ud => assumption); (case uo => assumption); (case um => first | assumption | exact ⟨by decide, by decide⟩); (case u1 => ktr_room); (case u2 => ktr_units); k_whole; intro xZ tZ o1Z o2Z hZ tkZ hx1Z hx2Z FZ NZ hDZ; (try dsimp only)))) | ((with_reducible show wpAny _ _ (call (.ref 660) _) _ _ _); (k_dflt (refine' Does.nil (law_many_does _ _ _ _ _ _ ?hi ?hl) ?uB ?uF ?uX ?uN ?uT ?uk ?uP ?ud ?uu ?_; walk_at "mine:n"; (case hi => assumption); (case hl => assumption); k_whole; intro rZ nxZ hZ tkZ FZ NZ hrZ; (try dsimp only at hrZ); ((obtain ⟨hn9, xZ, ⟨t9Z, hr9⟩, hx1Z, hx2Z⟩ := hrZ); subst hn9; subst hr9); walk_at "mine:f"))) | ((with_reducible show wpAny _ _ (call (.ref 243) _) _ _ _); (k_dflt (refine' Does.nil (standard_table_does _) ?uB ?uF ?uX ?uN ?uT ?uk ?uP ?ud ?uu ?_; walk_at "mine:n"; k_whole; intro rZ nxZ hZ tkZ FZ NZ hrZ; (try dsimp only at hrZ); ((obtain ⟨tZ, hr9, hTZ⟩ := hrZ; subst hr9; have N9Z := news_swap NZ; clear NZ; have NZ := N9Z; clear N9Z; (try simp only [List.cons_append, List.nil_append] at NZ); (obtain ⟨⟨hq1, hq2⟩, hq3⟩ := cell_apart NZ (by assumption) hTZ (by assumption)))); walk_at "mine:f"))) | ((with_reducible show wpAny _ _ (call (.ref 648) _) _ _ _); (k_dflt (refine' Does.nil (law_deck_does _ _ _ _ ?hi ?hl) ?uB ?uF ?uX ?uN ?uT ?uk ?uP ?ud ?uu ?_; walk_at "mine:n"; (case hi => assumption); (case hl => assumption); k_whole; intro rZ nxZ hZ tkZ FZ NZ hrZ; (try dsimp only at hrZ); ((obtain ⟨dkZ, lcZ, hr9, hD9⟩ := hrZ; obtain ⟨o1Z, o2Z, hn9, hDZ⟩ := deck_two hD9; subst hr9; subst hn9; clear hD9)); walk_at "mine:f")))) | ((with_reducible show wpAny _ _ (compareOp .NotEq (.ref _) (.ref _)) _ _ _); (refine halt ?_)) | ((with_reducible show wpAny _ _ (exec (.For _ _ _ _ _) _) _ _ _); (refine halt ?_)) | ((with_reducible show wpAny _ _ (exec (.For _ _ _ _ _) _) _ _ _); (refine halt ?_)) | ((with_reducible show wpAny _ _ (exec (.For _ _ _ _ _) _) _ _ _); (refine halt ?_)) | ((with_reducible show wpAny _ _ (call (.builtin "len") _) _ _ _); (k_here; (with_reducible show wpAny _ _ (call (Value.builtin "len") [Value.str _ _]) _ _ _); k_dflt (refine' len_row ?qf ?_; (case qf => assumption); k_whole))) | ((with_reducible show wpAny _ _ (call (.builtin "str.join") _) _ _ _); (k_here; k_dflt (refine' join_sgs ?hl ?hi ?hx ?hw ?hr ?_; (case hl => exact News.isList (by k_asm) (by k_mem)); (case hi => assumption); (case hx => rfl); (case hw => assumption); (case hr => assumption)); intro tZ kZ)) | ((with_reducible show wpAny _ _ (eval (.ListComp _ _ _ _) _) _ _ _); (k_here; k_dflt (refine ListComp_W (F₀ := by k_asm) (by with_unfolding_all rfl) (by decide) (by rfl) (by decide) (by rfl) ?_))) | ((with_reducible show wpAny _ _ (eval (.Name _ _) _) _ _ _); (k_here; k_dflt (refine' nameX_L ?qF ?qv ?_ ?qa ?qb; (case qF => k_asm); (case qa => rfl); (case qb => rfl); (case qv => first | exact rfl | assumption); k_whole))) | ((with_reducible show wpAny _ _ (exec (.For _ _ _ _ _) _) _ _ _); (refine halt ?_)) | walk1 | (dsimp only; with_reducible show wpAny _ _ (call (.ref _) _) _ _ _) | (dsimp only; walk1) | (leave1; (try dsimp only))))
      refine' ⟨_, _, rfl, ?zF, ?zN, _, rfl⟩
      (case zF => assumption)
      (case zN => assumption)
    · intro ys3 hys3
      (repeat' (first | (k_unfold; (try dsimp only)) | (k_end; kc_close) | ((with_reducible show wpAny _ _ (execs (_ :: _) _) _ _ _); (with_reducible refine wpAny_execs_cons ?_); first | k_fold | (try dsimp only)) | (k_closed; first | ((with_reducible refine ite_pos ?_ ?_); (focus (k_dflt decide))) | ((with_reducible refine ite_neg ?_ ?_); (focus (k_dflt decide)))) | ((with_reducible show wpAny _ _ (call (.ref _) _) _ _ _); first | ((with_reducible show wpAny _ _ (call (.ref 693) _) _ _ _); (refine halt ?_)) | ((with_reducible show wpAny _ _ (call (.ref 686) _) _ _ _); (k_dflt (refine' Does.nil (law_due_does _ _ _ _ _ _ _ _ _ _ ?hl ?hc ?hp ?hct) ?uB ?uF ?uX ?uN ?uT ?uk ?uP ?ud ?uu ?_; walk_at "mine:n"; (case hl => assumption); (case hc => assumption); (case hp => exact due_at (by assumption) (by assumption)); (case hct => exact due_ct (by assumption) (by assumption)); k_whole; intro rZ nxZ hZ tkZ FZ NZ hrZ; (try dsimp only at hrZ); ((obtain ⟨tpZ, itemsZ, nZ, hr1Z, hnxZ, hTZ⟩ := hrZ); subst hr1Z; subst hnxZ); walk_at "mine:f"))) | ((with_reducible show wpAny _ _ (call (.ref 639) _) _ _ _); (refine halt ?_)) | ((with_reducible show wpAny _ _ (call (.ref 655) _) _ _ _); (k_dflt (refine' call_draw ?uB ?uF ?uX ?uN ?uT ?uk ?ud ?uo ?um ?u1 ?u2 ?_; (case uB => k_asm); (case uF => k_asm); (case uX => k_asm); (case uN => first | k_asm | exact news_tail (by k_asm)); (case uT => k_asm); (case uk => exact rfl); (case ud => assumption); (case uo => assumption); (case um => first | assumption | exact ⟨by decide, by decide⟩); (case u1 => ktr_room); (case u2 => ktr_units); k_whole; intro xZ tZ o1Z o2Z hZ tkZ hx1Z hx2Z FZ NZ hDZ; (try dsimp only)))) | ((with_reducible show wpAny _ _ (call (.ref 660) _) _ _ _); (k_dflt (refine' Does.nil (law_many_does _ _ _ _ _ _ ?hi ?hl) ?uB ?uF ?uX ?uN ?uT ?uk ?uP ?ud ?uu ?_; walk_at "mine:n"; (case hi => assumption); (case hl => assumption); k_whole; intro rZ nxZ hZ tkZ FZ NZ hrZ; (try dsimp only at hrZ); ((obtain ⟨hn9, xZ, ⟨t9Z, hr9⟩, hx1Z, hx2Z⟩ := hrZ); subst hn9; subst hr9); walk_at "mine:f"))) | ((with_reducible show wpAny _ _ (call (.ref 243) _) _ _ _); (k_dflt (refine' Does.nil (standard_table_does _) ?uB ?uF ?uX ?uN ?uT ?uk ?uP ?ud ?uu ?_; walk_at "mine:n"; k_whole; intro rZ nxZ hZ tkZ FZ NZ hrZ; (try dsimp only at hrZ); ((obtain ⟨tZ, hr9, hTZ⟩ := hrZ; subst hr9; have N9Z := news_swap NZ; clear NZ; have NZ := N9Z; clear N9Z; (try simp only [List.cons_append, List.nil_append] at NZ); (obtain ⟨⟨hq1, hq2⟩, hq3⟩ := cell_apart NZ (by assumption) hTZ (by assumption)))); walk_at "mine:f"))) | ((with_reducible show wpAny _ _ (call (.ref 648) _) _ _ _); (k_dflt (refine' Does.nil (law_deck_does _ _ _ _ ?hi ?hl) ?uB ?uF ?uX ?uN ?uT ?uk ?uP ?ud ?uu ?_; walk_at "mine:n"; (case hi => assumption); (case hl => assumption); k_whole; intro rZ nxZ hZ tkZ FZ NZ hrZ; (try dsimp only at hrZ); ((obtain ⟨dkZ, lcZ, hr9, hD9⟩ := hrZ; obtain ⟨o1Z, o2Z, hn9, hDZ⟩ := deck_two hD9; subst hr9; subst hn9; clear hD9)); walk_at "mine:f")))) | ((with_reducible show wpAny _ _ (compareOp .NotEq (.ref _) (.ref _)) _ _ _); (refine halt ?_)) | ((with_reducible show wpAny _ _ (exec (.For _ _ _ _ _) _) _ _ _); (refine halt ?_)) | ((with_reducible show wpAny _ _ (exec (.For _ _ _ _ _) _) _ _ _); (refine halt ?_)) | ((with_reducible show wpAny _ _ (exec (.For _ _ _ _ _) _) _ _ _); (refine halt ?_)) | ((with_reducible show wpAny _ _ (call (.builtin "len") _) _ _ _); (k_here; (with_reducible show wpAny _ _ (call (Value.builtin "len") [Value.str _ _]) _ _ _); k_dflt (refine' len_row ?qf ?_; (case qf => assumption); k_whole))) | ((with_reducible show wpAny _ _ (call (.builtin "str.join") _) _ _ _); (k_here; k_dflt (refine' join_sgs ?hl ?hi ?hx ?hw ?hr ?_; (case hl => exact News.isList (by k_asm) (by k_mem)); (case hi => assumption); (case hx => rfl); (case hw => assumption); (case hr => assumption)); intro tZ kZ)) | ((with_reducible show wpAny _ _ (eval (.ListComp _ _ _ _) _) _ _ _); (k_here; k_dflt (refine ListComp_W (F₀ := by k_asm) (by with_unfolding_all rfl) (by decide) (by rfl) (by decide) (by rfl) ?_))) | ((with_reducible show wpAny _ _ (eval (.Name _ _) _) _ _ _); (k_here; k_dflt (refine' nameX_L ?qF ?qv ?_ ?qa ?qb; (case qF => k_asm); (case qa => rfl); (case qb => rfl); (case qv => first | exact rfl | assumption); k_whole))) | ((with_reducible show wpAny _ _ (exec (.For _ _ _ _ _) _) _ _ _); (refine halt ?_)) | walk1 | (dsimp only; with_reducible show wpAny _ _ (call (.ref _) _) _ _ _) | (dsimp only; walk1) | (leave1; (try dsimp only))))
      all_goals (try k_data)
      refine unhalt ?_
      have hn3 : (codesOf row).length ≤ 90 := hcs.1
      k_dflt (refine' new_view ?hm ?hi ?hn ?uB ?uF ?uX ?uN ?uT ?u1 ?u2 ?u3 ?ud ?_; (case uF => k_asm); (case uN => k_asm); (case hm => k_mem); (case hi => assumption); (case hn => assumption); (case uB => k_asm); (case uX => k_asm); (case uT => k_asm); (case u1 => exact rfl); (case u2 => exact rfl); (case u3 => exact rfl); (case ud => ktr_room))
      intro x' h' tk' nx' F' N' hS'
      obtain ⟨hV, hNew⟩ := hS'
      (refine cps ?_; intro G9 out9)
      obtain ⟨e, rest, he1, he2, N7, hO7, hAr⟩ := ready N' (by first | exact fun p hp => .tail _ (.tail _ hp) | exact fun p hp => .tail _ hp | exact fun p hp => hp) hO hV hNew hT9
      (refine out9 ?_; clear out9 G9)
      clear N'
      (repeat (rename _ ≠ _ ∧ _ => z9; clear z9))
      (repeat (rename _ ≠ _ => z9; clear z9))
      (repeat' (first | (k_unfold; (try dsimp only)) | (k_end; kc_close) | ((with_reducible show wpAny _ _ (execs (_ :: _) _) _ _ _); (with_reducible refine wpAny_execs_cons ?_); first | k_fold | (try dsimp only)) | (k_closed; first | ((with_reducible refine ite_pos ?_ ?_); (focus (k_dflt decide))) | ((with_reducible refine ite_neg ?_ ?_); (focus (k_dflt decide)))) | ((with_reducible show wpAny _ _ (call (.ref _) _) _ _ _); first | ((with_reducible show wpAny _ _ (call (.ref 693) _) _ _ _); (refine halt ?_)) | ((with_reducible show wpAny _ _ (call (.ref 686) _) _ _ _); (k_dflt (refine' Does.nil (law_due_does _ _ _ _ _ _ _ _ _ _ ?hl ?hc ?hp ?hct) ?uB ?uF ?uX ?uN ?uT ?uk ?uP ?ud ?uu ?_; walk_at "mine:n"; (case hl => assumption); (case hc => assumption); (case hp => exact due_at (by assumption) (by assumption)); (case hct => exact due_ct (by assumption) (by assumption)); k_whole; intro rZ nxZ hZ tkZ FZ NZ hrZ; (try dsimp only at hrZ); ((obtain ⟨tpZ, itemsZ, nZ, hr1Z, hnxZ, hTZ⟩ := hrZ); subst hr1Z; subst hnxZ); walk_at "mine:f"))) | ((with_reducible show wpAny _ _ (call (.ref 639) _) _ _ _); (refine halt ?_)) | ((with_reducible show wpAny _ _ (call (.ref 655) _) _ _ _); (k_dflt (refine' call_draw ?uB ?uF ?uX ?uN ?uT ?uk ?ud ?uo ?um ?u1 ?u2 ?_; (case uB => k_asm); (case uF => k_asm); (case uX => k_asm); (case uN => first | k_asm | exact news_tail (by k_asm)); (case uT => k_asm); (case uk => exact rfl); (case ud => assumption); (case uo => assumption); (case um => first | assumption | exact ⟨by decide, by decide⟩); (case u1 => ktr_room); (case u2 => ktr_units); k_whole; intro xZ tZ o1Z o2Z hZ tkZ hx1Z hx2Z FZ NZ hDZ; (try dsimp only)))) | ((with_reducible show wpAny _ _ (call (.ref 660) _) _ _ _); (k_dflt (refine' Does.nil (law_many_does _ _ _ _ _ _ ?hi ?hl) ?uB ?uF ?uX ?uN ?uT ?uk ?uP ?ud ?uu ?_; walk_at "mine:n"; (case hi => assumption); (case hl => assumption); k_whole; intro rZ nxZ hZ tkZ FZ NZ hrZ; (try dsimp only at hrZ); ((obtain ⟨hn9, xZ, ⟨t9Z, hr9⟩, hx1Z, hx2Z⟩ := hrZ); subst hn9; subst hr9); walk_at "mine:f"))) | ((with_reducible show wpAny _ _ (call (.ref 243) _) _ _ _); (k_dflt (refine' Does.nil (standard_table_does _) ?uB ?uF ?uX ?uN ?uT ?uk ?uP ?ud ?uu ?_; walk_at "mine:n"; k_whole; intro rZ nxZ hZ tkZ FZ NZ hrZ; (try dsimp only at hrZ); ((obtain ⟨tZ, hr9, hTZ⟩ := hrZ; subst hr9; have N9Z := news_swap NZ; clear NZ; have NZ := N9Z; clear N9Z; (try simp only [List.cons_append, List.nil_append] at NZ); (obtain ⟨⟨hq1, hq2⟩, hq3⟩ := cell_apart NZ (by assumption) hTZ (by assumption)))); walk_at "mine:f"))) | ((with_reducible show wpAny _ _ (call (.ref 648) _) _ _ _); (k_dflt (refine' Does.nil (law_deck_does _ _ _ _ ?hi ?hl) ?uB ?uF ?uX ?uN ?uT ?uk ?uP ?ud ?uu ?_; walk_at "mine:n"; (case hi => assumption); (case hl => assumption); k_whole; intro rZ nxZ hZ tkZ FZ NZ hrZ; (try dsimp only at hrZ); ((obtain ⟨dkZ, lcZ, hr9, hD9⟩ := hrZ; obtain ⟨o1Z, o2Z, hn9, hDZ⟩ := deck_two hD9; subst hr9; subst hn9; clear hD9)); walk_at "mine:f")))) | ((with_reducible show wpAny _ _ (compareOp .NotEq (.ref _) (.ref _)) _ _ _); (refine halt ?_)) | ((with_reducible show wpAny _ _ (exec (.For _ _ _ _ _) _) _ _ _); (refine halt ?_)) | ((with_reducible show wpAny _ _ (exec (.For _ _ _ _ _) _) _ _ _); (refine halt ?_)) | ((with_reducible show wpAny _ _ (exec (.For _ _ _ _ _) _) _ _ _); (refine halt ?_)) | ((with_reducible show wpAny _ _ (call (.builtin "len") _) _ _ _); (k_here; (with_reducible show wpAny _ _ (call (Value.builtin "len") [Value.str _ _]) _ _ _); k_dflt (refine' len_row ?qf ?_; (case qf => assumption); k_whole))) | ((with_reducible show wpAny _ _ (call (.builtin "str.join") _) _ _ _); (k_here; k_dflt (refine' join_sgs ?hl ?hi ?hx ?hw ?hr ?_; (case hl => exact News.isList (by k_asm) (by k_mem)); (case hi => assumption); (case hx => rfl); (case hw => assumption); (case hr => assumption)); intro tZ kZ)) | ((with_reducible show wpAny _ _ (eval (.ListComp _ _ _ _) _) _ _ _); (k_here; k_dflt (refine ListComp_W (F₀ := by k_asm) (by with_unfolding_all rfl) (by decide) (by rfl) (by decide) (by rfl) ?_))) | ((with_reducible show wpAny _ _ (eval (.Name _ _) _) _ _ _); (k_here; k_dflt (refine' nameX_L ?qF ?qv ?_ ?qa ?qb; (case qF => k_asm); (case qa => rfl); (case qb => rfl); (case qv => first | exact rfl | assumption); k_whole))) | ((with_reducible show wpAny _ _ (exec (.For _ _ _ _ _) _) _ _ _); (refine halt ?_)) | walk1 | (dsimp only; with_reducible show wpAny _ _ (call (.ref _) _) _ _ _) | (dsimp only; walk1) | (leave1; (try dsimp only))))
      refine unhalt ?_
      refine For_W (F₀ := by assumption) (by rfl) (by rfl) ?_
      (repeat' (first | (k_unfold; (try dsimp only)) | (k_end; kc_close) | ((with_reducible show wpAny _ _ (execs (_ :: _) _) _ _ _); (with_reducible refine wpAny_execs_cons ?_); first | k_fold | (try dsimp only)) | (k_closed; first | ((with_reducible refine ite_pos ?_ ?_); (focus (k_dflt decide))) | ((with_reducible refine ite_neg ?_ ?_); (focus (k_dflt decide)))) | ((with_reducible show wpAny _ _ (call (.ref _) _) _ _ _); first | ((with_reducible show wpAny _ _ (call (.ref 693) _) _ _ _); (refine halt ?_)) | ((with_reducible show wpAny _ _ (call (.ref 686) _) _ _ _); (k_dflt (refine' Does.nil (law_due_does _ _ _ _ _ _ _ _ _ _ ?hl ?hc ?hp ?hct) ?uB ?uF ?uX ?uN ?uT ?uk ?uP ?ud ?uu ?_; walk_at "mine:n"; (case hl => assumption); (case hc => assumption); (case hp => exact due_at (by assumption) (by assumption)); (case hct => exact due_ct (by assumption) (by assumption)); k_whole; intro rZ nxZ hZ tkZ FZ NZ hrZ; (try dsimp only at hrZ); ((obtain ⟨tpZ, itemsZ, nZ, hr1Z, hnxZ, hTZ⟩ := hrZ); subst hr1Z; subst hnxZ); walk_at "mine:f"))) | ((with_reducible show wpAny _ _ (call (.ref 639) _) _ _ _); (refine halt ?_)) | ((with_reducible show wpAny _ _ (call (.ref 655) _) _ _ _); (k_dflt (refine' call_draw ?uB ?uF ?uX ?uN ?uT ?uk ?ud ?uo ?um ?u1 ?u2 ?_; (case uB => k_asm); (case uF => k_asm); (case uX => k_asm); (case uN => first | k_asm | exact news_tail (by k_asm)); (case uT => k_asm); (case uk => exact rfl); (case ud => assumption); (case uo => assumption); (case um => first | assumption | exact ⟨by decide, by decide⟩); (case u1 => ktr_room); (case u2 => ktr_units); k_whole; intro xZ tZ o1Z o2Z hZ tkZ hx1Z hx2Z FZ NZ hDZ; (try dsimp only)))) | ((with_reducible show wpAny _ _ (call (.ref 660) _) _ _ _); (k_dflt (refine' Does.nil (law_many_does _ _ _ _ _ _ ?hi ?hl) ?uB ?uF ?uX ?uN ?uT ?uk ?uP ?ud ?uu ?_; walk_at "mine:n"; (case hi => assumption); (case hl => assumption); k_whole; intro rZ nxZ hZ tkZ FZ NZ hrZ; (try dsimp only at hrZ); ((obtain ⟨hn9, xZ, ⟨t9Z, hr9⟩, hx1Z, hx2Z⟩ := hrZ); subst hn9; subst hr9); walk_at "mine:f"))) | ((with_reducible show wpAny _ _ (call (.ref 243) _) _ _ _); (k_dflt (refine' Does.nil (standard_table_does _) ?uB ?uF ?uX ?uN ?uT ?uk ?uP ?ud ?uu ?_; walk_at "mine:n"; k_whole; intro rZ nxZ hZ tkZ FZ NZ hrZ; (try dsimp only at hrZ); ((obtain ⟨tZ, hr9, hTZ⟩ := hrZ; subst hr9; have N9Z := news_swap NZ; clear NZ; have NZ := N9Z; clear N9Z; (try simp only [List.cons_append, List.nil_append] at NZ); (obtain ⟨⟨hq1, hq2⟩, hq3⟩ := cell_apart NZ (by assumption) hTZ (by assumption)))); walk_at "mine:f"))) | ((with_reducible show wpAny _ _ (call (.ref 648) _) _ _ _); (k_dflt (refine' Does.nil (law_deck_does _ _ _ _ ?hi ?hl) ?uB ?uF ?uX ?uN ?uT ?uk ?uP ?ud ?uu ?_; walk_at "mine:n"; (case hi => assumption); (case hl => assumption); k_whole; intro rZ nxZ hZ tkZ FZ NZ hrZ; (try dsimp only at hrZ); ((obtain ⟨dkZ, lcZ, hr9, hD9⟩ := hrZ; obtain ⟨o1Z, o2Z, hn9, hDZ⟩ := deck_two hD9; subst hr9; subst hn9; clear hD9)); walk_at "mine:f")))) | ((with_reducible show wpAny _ _ (compareOp .NotEq (.ref _) (.ref _)) _ _ _); (refine halt ?_)) | ((with_reducible show wpAny _ _ (exec (.For _ _ _ _ _) _) _ _ _); (refine halt ?_)) | ((with_reducible show wpAny _ _ (exec (.For _ _ _ _ _) _) _ _ _); (refine halt ?_)) | ((with_reducible show wpAny _ _ (exec (.For _ _ _ _ _) _) _ _ _); (refine halt ?_)) | ((with_reducible show wpAny _ _ (call (.builtin "len") _) _ _ _); (k_here; (with_reducible show wpAny _ _ (call (Value.builtin "len") [Value.str _ _]) _ _ _); k_dflt (refine' len_row ?qf ?_; (case qf => assumption); k_whole))) | ((with_reducible show wpAny _ _ (call (.builtin "str.join") _) _ _ _); (k_here; k_dflt (refine' join_sgs ?hl ?hi ?hx ?hw ?hr ?_; (case hl => exact News.isList (by k_asm) (by k_mem)); (case hi => assumption); (case hx => rfl); (case hw => assumption); (case hr => assumption)); intro tZ kZ)) | ((with_reducible show wpAny _ _ (eval (.ListComp _ _ _ _) _) _ _ _); (k_here; k_dflt (refine ListComp_W (F₀ := by k_asm) (by with_unfolding_all rfl) (by decide) (by rfl) (by decide) (by rfl) ?_))) | ((with_reducible show wpAny _ _ (eval (.Name _ _) _) _ _ _); (k_here; k_dflt (refine' nameX_L ?qF ?qv ?_ ?qa ?qb; (case qF => k_asm); (case qa => rfl); (case qb => rfl); (case qv => first | exact rfl | assumption); k_whole))) | ((with_reducible show wpAny _ _ (exec (.For _ _ _ _ _) _) _ _ _); (refine halt ?_)) | walk1 | (dsimp only; with_reducible show wpAny _ _ (call (.ref _) _) _ _ _) | (dsimp only; walk1) | (leave1; (try dsimp only))))
      all_goals (try k_data)
      refine SrcF.range (by rfl) (by assumption) (by assumption) (by assumption) (by decide) (rangeSize_nat _ _) ?_
      intro g4
      have hrl1 : 4 ≤ row.length := by omega
      have hrl2 : row.length ≤ 16 := by omega
      have hrl3 : row.length ≤ 90 := by omega
      have hdr := draw_many hrl1 hrl2
      refine law_rest2 (e := e) (row := row) (below_caller _) (by first | decide | ktr_room) (by first | decide | ktr_units) hD hO7 ⟨⟨_, by rfl⟩, by rw [he1]; rfl, by rw [he2]; rfl⟩ ?_ ?_
      · clear hrow hR9 hn9 hlen hl hw9 hn3 hx8 hx9
        (repeat (rename Fr _ _ _ _ => z9; clear z9))
        (repeat (rename News _ _ _ _ => z9; clear z9))
        (try (rename Glob _ _ _ _ _ _ _ _ => z9; clear z9))
        (try (rename TopE _ _ _ _ => z9; clear z9))
        (try (rename TopW _ _ _ => z9; clear z9))
        (try (rename Tables _ _ _ _ => z9; clear z9))
        (try (rename BMod _ _ _ _ _ => z9; clear z9))
        (try (rename Ground _ _ _ _ _ _ _ _ _ => z9; clear z9))
        (try (rename Flt.MathXP _ _ _ => z9; clear z9))
        (try (rename LooseAre _ _ _ => z9; clear z9))
        (try (rename Dflts _ _ _ _ _ _ => z9; clear z9))
        (try (rename CellsAre _ _ _ => z9; clear z9))
        (try (rename Reads _ _ _ _ => z9; clear z9))
        (try (rename ReadsAll _ _ _ _ => z9; clear z9))
        (try (rename ReadsAllW _ _ _ _ _ _ => z9; clear z9))
        (try (rename Well _ _ _ _ => z9; clear z9))
        (repeat (rename IsRange _ _ _ _ _ _ _ _ => z9; clear z9))
        (repeat (rename Below _ _ _ _ => z9; clear z9))
        intro A₀' base' dp' un' gd' QQ EE v m₁ o1 o2 h tk I oI hBel hdp' hun' hm hD2 F₁ N₁ off
        (try clear ek)
        (try clear qk)
        (refine cps ?_; intro G9 out9)
        obtain ⟨⟨rt, hm1⟩, hm2, hm3⟩ := hm
        (refine out9 ?_; clear out9 G9)
        (repeat' (first | (k_unfold; (try dsimp only)) | (k_end; kc_close) | ((with_reducible show wpAny _ _ (execs (_ :: _) _) _ _ _); (with_reducible refine wpAny_execs_cons ?_); first | k_fold | (try dsimp only)) | (k_closed; first | ((with_reducible refine ite_pos ?_ ?_); (focus (k_dflt decide))) | ((with_reducible refine ite_neg ?_ ?_); (focus (k_dflt decide)))) | ((with_reducible show wpAny _ _ (call (.ref _) _) _ _ _); first | ((with_reducible show wpAny _ _ (call (.ref 693) _) _ _ _); (refine halt ?_)) | ((with_reducible show wpAny _ _ (call (.ref 686) _) _ _ _); (k_dflt (refine' Does.nil (law_due_does _ _ _ _ _ _ _ _ _ _ ?hl ?hc ?hp ?hct) ?uB ?uF ?uX ?uN ?uT ?uk ?uP ?ud ?uu ?_; walk_at "mine:n"; (case hl => assumption); (case hc => assumption); (case hp => exact due_at (by assumption) (by assumption)); (case hct => exact due_ct (by assumption) (by assumption)); k_whole; intro rZ nxZ hZ tkZ FZ NZ hrZ; (try dsimp only at hrZ); ((obtain ⟨tpZ, itemsZ, nZ, hr1Z, hnxZ, hTZ⟩ := hrZ); subst hr1Z; subst hnxZ); walk_at "mine:f"))) | ((with_reducible show wpAny _ _ (call (.ref 639) _) _ _ _); (refine halt ?_)) | ((with_reducible show wpAny _ _ (call (.ref 655) _) _ _ _); (k_dflt (refine' call_draw ?uB ?uF ?uX ?uN ?uT ?uk ?ud ?uo ?um ?u1 ?u2 ?_; (case uB => k_asm); (case uF => k_asm); (case uX => k_asm); (case uN => first | k_asm | exact news_tail (by k_asm)); (case uT => k_asm); (case uk => exact rfl); (case ud => assumption); (case uo => assumption); (case um => first | assumption | exact ⟨by decide, by decide⟩); (case u1 => ktr_room); (case u2 => ktr_units); k_whole; intro xZ tZ o1Z o2Z hZ tkZ hx1Z hx2Z FZ NZ hDZ; (try dsimp only)))) | ((with_reducible show wpAny _ _ (call (.ref 660) _) _ _ _); (k_dflt (refine' Does.nil (law_many_does _ _ _ _ _ _ ?hi ?hl) ?uB ?uF ?uX ?uN ?uT ?uk ?uP ?ud ?uu ?_; walk_at "mine:n"; (case hi => assumption); (case hl => assumption); k_whole; intro rZ nxZ hZ tkZ FZ NZ hrZ; (try dsimp only at hrZ); ((obtain ⟨hn9, xZ, ⟨t9Z, hr9⟩, hx1Z, hx2Z⟩ := hrZ); subst hn9; subst hr9); walk_at "mine:f"))) | ((with_reducible show wpAny _ _ (call (.ref 243) _) _ _ _); (k_dflt (refine' Does.nil (standard_table_does _) ?uB ?uF ?uX ?uN ?uT ?uk ?uP ?ud ?uu ?_; walk_at "mine:n"; k_whole; intro rZ nxZ hZ tkZ FZ NZ hrZ; (try dsimp only at hrZ); ((obtain ⟨tZ, hr9, hTZ⟩ := hrZ; subst hr9; have N9Z := news_swap NZ; clear NZ; have NZ := N9Z; clear N9Z; (try simp only [List.cons_append, List.nil_append] at NZ); (obtain ⟨⟨hq1, hq2⟩, hq3⟩ := cell_apart NZ (by assumption) hTZ (by assumption)))); walk_at "mine:f"))) | ((with_reducible show wpAny _ _ (call (.ref 648) _) _ _ _); (k_dflt (refine' Does.nil (law_deck_does _ _ _ _ ?hi ?hl) ?uB ?uF ?uX ?uN ?uT ?uk ?uP ?ud ?uu ?_; walk_at "mine:n"; (case hi => assumption); (case hl => assumption); k_whole; intro rZ nxZ hZ tkZ FZ NZ hrZ; (try dsimp only at hrZ); ((obtain ⟨dkZ, lcZ, hr9, hD9⟩ := hrZ; obtain ⟨o1Z, o2Z, hn9, hDZ⟩ := deck_two hD9; subst hr9; subst hn9; clear hD9)); walk_at "mine:f")))) | ((with_reducible show wpAny _ _ (compareOp .NotEq (.ref _) (.ref _)) _ _ _); (refine halt ?_)) | ((with_reducible show wpAny _ _ (exec (.For _ _ _ _ _) _) _ _ _); (refine halt ?_)) | ((with_reducible show wpAny _ _ (exec (.For _ _ _ _ _) _) _ _ _); (refine halt ?_)) | ((with_reducible show wpAny _ _ (exec (.For _ _ _ _ _) _) _ _ _); (refine halt ?_)) | ((with_reducible show wpAny _ _ (call (.builtin "len") _) _ _ _); (k_here; (with_reducible show wpAny _ _ (call (Value.builtin "len") [Value.str _ _]) _ _ _); k_dflt (refine' len_row ?qf ?_; (case qf => assumption); k_whole))) | ((with_reducible show wpAny _ _ (call (.builtin "str.join") _) _ _ _); (k_here; k_dflt (refine' join_sgs ?hl ?hi ?hx ?hw ?hr ?_; (case hl => exact News.isList (by k_asm) (by k_mem)); (case hi => assumption); (case hx => rfl); (case hw => assumption); (case hr => assumption)); intro tZ kZ)) | ((with_reducible show wpAny _ _ (eval (.ListComp _ _ _ _) _) _ _ _); (k_here; k_dflt (refine ListComp_W (F₀ := by k_asm) (by with_unfolding_all rfl) (by decide) (by rfl) (by decide) (by rfl) ?_))) | ((with_reducible show wpAny _ _ (eval (.Name _ _) _) _ _ _); (k_here; k_dflt (refine' nameX_L ?qF ?qv ?_ ?qa ?qb; (case qF => k_asm); (case qa => rfl); (case qb => rfl); (case qv => first | exact rfl | assumption); k_whole))) | ((with_reducible show wpAny _ _ (exec (.For _ _ _ _ _) _) _ _ _); (refine halt ?_)) | walk1 | (dsimp only; with_reducible show wpAny _ _ (call (.ref _) _) _ _ _) | (dsimp only; walk1) | (leave1; (try dsimp only))))
        all_goals (try k_data)
        all_goals (refine unhalt ?_)
        all_goals (k_dflt (refine' told_keep (e := e) hcs ?tp ?uB ?uF ?uX ?uN ?uT ?uk ?uP ?ud ?uu ?_; (case uB => k_asm); (case uF => k_asm); (case uX => k_asm); (case uN => k_asm); (case uT => k_asm); (case uk => exact rfl); (case uP => exact hAr _ _ _ (News.sub (by k_asm) (fun p hp => .tail _ (.tail _ (.tail _ (.tail _ (.tail _ hp))))))); (case ud => omega); (case uu => omega); (case tp => rw [codes_len]; exact due_at (by assumption) (by assumption))))
        all_goals (intro tp2 items2 n2 h2 tk2 F2 N2 hT2)
        all_goals (repeat' (first | (k_unfold; (try dsimp only)) | (k_end; kc_close) | ((with_reducible show wpAny _ _ (execs (_ :: _) _) _ _ _); (with_reducible refine wpAny_execs_cons ?_); first | k_fold | (try dsimp only)) | (k_closed; first | ((with_reducible refine ite_pos ?_ ?_); (focus (k_dflt decide))) | ((with_reducible refine ite_neg ?_ ?_); (focus (k_dflt decide)))) | ((with_reducible show wpAny _ _ (call (.ref _) _) _ _ _); first | ((with_reducible show wpAny _ _ (call (.ref 693) _) _ _ _); (refine halt ?_)) | ((with_reducible show wpAny _ _ (call (.ref 686) _) _ _ _); (k_dflt (refine' Does.nil (law_due_does _ _ _ _ _ _ _ _ _ _ ?hl ?hc ?hp ?hct) ?uB ?uF ?uX ?uN ?uT ?uk ?uP ?ud ?uu ?_; walk_at "mine:n"; (case hl => assumption); (case hc => assumption); (case hp => exact due_at (by assumption) (by assumption)); (case hct => exact due_ct (by assumption) (by assumption)); k_whole; intro rZ nxZ hZ tkZ FZ NZ hrZ; (try dsimp only at hrZ); ((obtain ⟨tpZ, itemsZ, nZ, hr1Z, hnxZ, hTZ⟩ := hrZ); subst hr1Z; subst hnxZ); walk_at "mine:f"))) | ((with_reducible show wpAny _ _ (call (.ref 639) _) _ _ _); (refine halt ?_)) | ((with_reducible show wpAny _ _ (call (.ref 655) _) _ _ _); (k_dflt (refine' call_draw ?uB ?uF ?uX ?uN ?uT ?uk ?ud ?uo ?um ?u1 ?u2 ?_; (case uB => k_asm); (case uF => k_asm); (case uX => k_asm); (case uN => first | k_asm | exact news_tail (by k_asm)); (case uT => k_asm); (case uk => exact rfl); (case ud => assumption); (case uo => assumption); (case um => first | assumption | exact ⟨by decide, by decide⟩); (case u1 => ktr_room); (case u2 => ktr_units); k_whole; intro xZ tZ o1Z o2Z hZ tkZ hx1Z hx2Z FZ NZ hDZ; (try dsimp only)))) | ((with_reducible show wpAny _ _ (call (.ref 660) _) _ _ _); (k_dflt (refine' Does.nil (law_many_does _ _ _ _ _ _ ?hi ?hl) ?uB ?uF ?uX ?uN ?uT ?uk ?uP ?ud ?uu ?_; walk_at "mine:n"; (case hi => assumption); (case hl => assumption); k_whole; intro rZ nxZ hZ tkZ FZ NZ hrZ; (try dsimp only at hrZ); ((obtain ⟨hn9, xZ, ⟨t9Z, hr9⟩, hx1Z, hx2Z⟩ := hrZ); subst hn9; subst hr9); walk_at "mine:f"))) | ((with_reducible show wpAny _ _ (call (.ref 243) _) _ _ _); (k_dflt (refine' Does.nil (standard_table_does _) ?uB ?uF ?uX ?uN ?uT ?uk ?uP ?ud ?uu ?_; walk_at "mine:n"; k_whole; intro rZ nxZ hZ tkZ FZ NZ hrZ; (try dsimp only at hrZ); ((obtain ⟨tZ, hr9, hTZ⟩ := hrZ; subst hr9; have N9Z := news_swap NZ; clear NZ; have NZ := N9Z; clear N9Z; (try simp only [List.cons_append, List.nil_append] at NZ); (obtain ⟨⟨hq1, hq2⟩, hq3⟩ := cell_apart NZ (by assumption) hTZ (by assumption)))); walk_at "mine:f"))) | ((with_reducible show wpAny _ _ (call (.ref 648) _) _ _ _); (k_dflt (refine' Does.nil (law_deck_does _ _ _ _ ?hi ?hl) ?uB ?uF ?uX ?uN ?uT ?uk ?uP ?ud ?uu ?_; walk_at "mine:n"; (case hi => assumption); (case hl => assumption); k_whole; intro rZ nxZ hZ tkZ FZ NZ hrZ; (try dsimp only at hrZ); ((obtain ⟨dkZ, lcZ, hr9, hD9⟩ := hrZ; obtain ⟨o1Z, o2Z, hn9, hDZ⟩ := deck_two hD9; subst hr9; subst hn9; clear hD9)); walk_at "mine:f")))) | ((with_reducible show wpAny _ _ (compareOp .NotEq (.ref _) (.ref _)) _ _ _); (refine halt ?_)) | ((with_reducible show wpAny _ _ (exec (.For _ _ _ _ _) _) _ _ _); (refine halt ?_)) | ((with_reducible show wpAny _ _ (exec (.For _ _ _ _ _) _) _ _ _); (refine halt ?_)) | ((with_reducible show wpAny _ _ (exec (.For _ _ _ _ _) _) _ _ _); (refine halt ?_)) | ((with_reducible show wpAny _ _ (call (.builtin "len") _) _ _ _); (k_here; (with_reducible show wpAny _ _ (call (Value.builtin "len") [Value.str _ _]) _ _ _); k_dflt (refine' len_row ?qf ?_; (case qf => assumption); k_whole))) | ((with_reducible show wpAny _ _ (call (.builtin "str.join") _) _ _ _); (k_here; k_dflt (refine' join_sgs ?hl ?hi ?hx ?hw ?hr ?_; (case hl => exact News.isList (by k_asm) (by k_mem)); (case hi => assumption); (case hx => rfl); (case hw => assumption); (case hr => assumption)); intro tZ kZ)) | ((with_reducible show wpAny _ _ (eval (.ListComp _ _ _ _) _) _ _ _); (k_here; k_dflt (refine ListComp_W (F₀ := by k_asm) (by with_unfolding_all rfl) (by decide) (by rfl) (by decide) (by rfl) ?_))) | ((with_reducible show wpAny _ _ (eval (.Name _ _) _) _ _ _); (k_here; k_dflt (refine' nameX_L ?qF ?qv ?_ ?qa ?qb; (case qF => k_asm); (case qa => rfl); (case qb => rfl); (case qv => first | exact rfl | assumption); k_whole))) | ((with_reducible show wpAny _ _ (exec (.For _ _ _ _ _) _) _ _ _); (refine halt ?_)) | walk1 | (dsimp only; with_reducible show wpAny _ _ (call (.ref _) _) _ _ _) | (dsimp only; walk1) | (leave1; (try dsimp only))))
        all_goals (try k_data)
        all_goals (refine unhalt ?_)
        all_goals (refine' ne_told ?zA ?zB hT2 ?zD ?zU ?_; (case zA => exact News.isTup (by k_asm) (by k_mem)); (case zB => exact News.isTup (by k_asm) (by k_mem)); (case zD => first | exact due_told0 (by assumption) (by assumption) | exact due_told1 (by assumption) (by assumption)); (case zU => ktr_units))
        all_goals (repeat' (first | (k_unfold; (try dsimp only)) | (k_end; kc_close) | ((with_reducible show wpAny _ _ (execs (_ :: _) _) _ _ _); (with_reducible refine wpAny_execs_cons ?_); first | k_fold | (try dsimp only)) | (k_closed; first | ((with_reducible refine ite_pos ?_ ?_); (focus (k_dflt decide))) | ((with_reducible refine ite_neg ?_ ?_); (focus (k_dflt decide)))) | ((with_reducible show wpAny _ _ (call (.ref _) _) _ _ _); first | ((with_reducible show wpAny _ _ (call (.ref 693) _) _ _ _); (refine halt ?_)) | ((with_reducible show wpAny _ _ (call (.ref 686) _) _ _ _); (k_dflt (refine' Does.nil (law_due_does _ _ _ _ _ _ _ _ _ _ ?hl ?hc ?hp ?hct) ?uB ?uF ?uX ?uN ?uT ?uk ?uP ?ud ?uu ?_; walk_at "mine:n"; (case hl => assumption); (case hc => assumption); (case hp => exact due_at (by assumption) (by assumption)); (case hct => exact due_ct (by assumption) (by assumption)); k_whole; intro rZ nxZ hZ tkZ FZ NZ hrZ; (try dsimp only at hrZ); ((obtain ⟨tpZ, itemsZ, nZ, hr1Z, hnxZ, hTZ⟩ := hrZ); subst hr1Z; subst hnxZ); walk_at "mine:f"))) | ((with_reducible show wpAny _ _ (call (.ref 639) _) _ _ _); (refine halt ?_)) | ((with_reducible show wpAny _ _ (call (.ref 655) _) _ _ _); (k_dflt (refine' call_draw ?uB ?uF ?uX ?uN ?uT ?uk ?ud ?uo ?um ?u1 ?u2 ?_; (case uB => k_asm); (case uF => k_asm); (case uX => k_asm); (case uN => first | k_asm | exact news_tail (by k_asm)); (case uT => k_asm); (case uk => exact rfl); (case ud => assumption); (case uo => assumption); (case um => first | assumption | exact ⟨by decide, by decide⟩); (case u1 => ktr_room); (case u2 => ktr_units); k_whole; intro xZ tZ o1Z o2Z hZ tkZ hx1Z hx2Z FZ NZ hDZ; (try dsimp only)))) | ((with_reducible show wpAny _ _ (call (.ref 660) _) _ _ _); (k_dflt (refine' Does.nil (law_many_does _ _ _ _ _ _ ?hi ?hl) ?uB ?uF ?uX ?uN ?uT ?uk ?uP ?ud ?uu ?_; walk_at "mine:n"; (case hi => assumption); (case hl => assumption); k_whole; intro rZ nxZ hZ tkZ FZ NZ hrZ; (try dsimp only at hrZ); ((obtain ⟨hn9, xZ, ⟨t9Z, hr9⟩, hx1Z, hx2Z⟩ := hrZ); subst hn9; subst hr9); walk_at "mine:f"))) | ((with_reducible show wpAny _ _ (call (.ref 243) _) _ _ _); (k_dflt (refine' Does.nil (standard_table_does _) ?uB ?uF ?uX ?uN ?uT ?uk ?uP ?ud ?uu ?_; walk_at "mine:n"; k_whole; intro rZ nxZ hZ tkZ FZ NZ hrZ; (try dsimp only at hrZ); ((obtain ⟨tZ, hr9, hTZ⟩ := hrZ; subst hr9; have N9Z := news_swap NZ; clear NZ; have NZ := N9Z; clear N9Z; (try simp only [List.cons_append, List.nil_append] at NZ); (obtain ⟨⟨hq1, hq2⟩, hq3⟩ := cell_apart NZ (by assumption) hTZ (by assumption)))); walk_at "mine:f"))) | ((with_reducible show wpAny _ _ (call (.ref 648) _) _ _ _); (k_dflt (refine' Does.nil (law_deck_does _ _ _ _ ?hi ?hl) ?uB ?uF ?uX ?uN ?uT ?uk ?uP ?ud ?uu ?_; walk_at "mine:n"; (case hi => assumption); (case hl => assumption); k_whole; intro rZ nxZ hZ tkZ FZ NZ hrZ; (try dsimp only at hrZ); ((obtain ⟨dkZ, lcZ, hr9, hD9⟩ := hrZ; obtain ⟨o1Z, o2Z, hn9, hDZ⟩ := deck_two hD9; subst hr9; subst hn9; clear hD9)); walk_at "mine:f")))) | ((with_reducible show wpAny _ _ (compareOp .NotEq (.ref _) (.ref _)) _ _ _); (refine halt ?_)) | ((with_reducible show wpAny _ _ (exec (.For _ _ _ _ _) _) _ _ _); (refine halt ?_)) | ((with_reducible show wpAny _ _ (exec (.For _ _ _ _ _) _) _ _ _); (refine halt ?_)) | ((with_reducible show wpAny _ _ (exec (.For _ _ _ _ _) _) _ _ _); (refine halt ?_)) | ((with_reducible show wpAny _ _ (call (.builtin "len") _) _ _ _); (k_here; (with_reducible show wpAny _ _ (call (Value.builtin "len") [Value.str _ _]) _ _ _); k_dflt (refine' len_row ?qf ?_; (case qf => assumption); k_whole))) | ((with_reducible show wpAny _ _ (call (.builtin "str.join") _) _ _ _); (k_here; k_dflt (refine' join_sgs ?hl ?hi ?hx ?hw ?hr ?_; (case hl => exact News.isList (by k_asm) (by k_mem)); (case hi => assumption); (case hx => rfl); (case hw => assumption); (case hr => assumption)); intro tZ kZ)) | ((with_reducible show wpAny _ _ (eval (.ListComp _ _ _ _) _) _ _ _); (k_here; k_dflt (refine ListComp_W (F₀ := by k_asm) (by with_unfolding_all rfl) (by decide) (by rfl) (by decide) (by rfl) ?_))) | ((with_reducible show wpAny _ _ (eval (.Name _ _) _) _ _ _); (k_here; k_dflt (refine' nameX_L ?qF ?qv ?_ ?qa ?qb; (case qF => k_asm); (case qa => rfl); (case qb => rfl); (case qv => first | exact rfl | assumption); k_whole))) | ((with_reducible show wpAny _ _ (exec (.For _ _ _ _ _) _) _ _ _); (refine halt ?_)) | walk1 | (dsimp only; with_reducible show wpAny _ _ (call (.ref _) _) _ _ _) | (dsimp only; walk1) | (leave1; (try dsimp only))))
        all_goals (try k_data)
        all_goals (refine' law_end ?lF ?lN ⟨⟨rt, ?l1⟩, ?l2, ?l3⟩ ?lD; (case lF => assumption); (case lN => first | exact news_tail (news_tail (by assumption)) | exact news_tail (news_tail (news_tail (by assumption)))); (case l1 => exact hm1); (case l2 => exact hm2); (case l3 => exact hm3); (case lD => assumption))
      · intro h' tk m' o1 o2 F₁ N₁
        (repeat' (first | (k_unfold; (try dsimp only)) | (k_end; kc_close) | ((with_reducible show wpAny _ _ (execs (_ :: _) _) _ _ _); (with_reducible refine wpAny_execs_cons ?_); first | k_fold | (try dsimp only)) | (k_closed; first | ((with_reducible refine ite_pos ?_ ?_); (focus (k_dflt decide))) | ((with_reducible refine ite_neg ?_ ?_); (focus (k_dflt decide)))) | ((with_reducible show wpAny _ _ (call (.ref _) _) _ _ _); first | ((with_reducible show wpAny _ _ (call (.ref 693) _) _ _ _); (refine halt ?_)) | ((with_reducible show wpAny _ _ (call (.ref 686) _) _ _ _); (k_dflt (refine' Does.nil (law_due_does _ _ _ _ _ _ _ _ _ _ ?hl ?hc ?hp ?hct) ?uB ?uF ?uX ?uN ?uT ?uk ?uP ?ud ?uu ?_; walk_at "mine:n"; (case hl => assumption); (case hc => assumption); (case hp => exact due_at (by assumption) (by assumption)); (case hct => exact due_ct (by assumption) (by assumption)); k_whole; intro rZ nxZ hZ tkZ FZ NZ hrZ; (try dsimp only at hrZ); ((obtain ⟨tpZ, itemsZ, nZ, hr1Z, hnxZ, hTZ⟩ := hrZ); subst hr1Z; subst hnxZ); walk_at "mine:f"))) | ((with_reducible show wpAny _ _ (call (.ref 639) _) _ _ _); (refine halt ?_)) | ((with_reducible show wpAny _ _ (call (.ref 655) _) _ _ _); (k_dflt (refine' call_draw ?uB ?uF ?uX ?uN ?uT ?uk ?ud ?uo ?um ?u1 ?u2 ?_; (case uB => k_asm); (case uF => k_asm); (case uX => k_asm); (case uN => first | k_asm | exact news_tail (by k_asm)); (case uT => k_asm); (case uk => exact rfl); (case ud => assumption); (case uo => assumption); (case um => first | assumption | exact ⟨by decide, by decide⟩); (case u1 => ktr_room); (case u2 => ktr_units); k_whole; intro xZ tZ o1Z o2Z hZ tkZ hx1Z hx2Z FZ NZ hDZ; (try dsimp only)))) | ((with_reducible show wpAny _ _ (call (.ref 660) _) _ _ _); (k_dflt (refine' Does.nil (law_many_does _ _ _ _ _ _ ?hi ?hl) ?uB ?uF ?uX ?uN ?uT ?uk ?uP ?ud ?uu ?_; walk_at "mine:n"; (case hi => assumption); (case hl => assumption); k_whole; intro rZ nxZ hZ tkZ FZ NZ hrZ; (try dsimp only at hrZ); ((obtain ⟨hn9, xZ, ⟨t9Z, hr9⟩, hx1Z, hx2Z⟩ := hrZ); subst hn9; subst hr9); walk_at "mine:f"))) | ((with_reducible show wpAny _ _ (call (.ref 243) _) _ _ _); (k_dflt (refine' Does.nil (standard_table_does _) ?uB ?uF ?uX ?uN ?uT ?uk ?uP ?ud ?uu ?_; walk_at "mine:n"; k_whole; intro rZ nxZ hZ tkZ FZ NZ hrZ; (try dsimp only at hrZ); ((obtain ⟨tZ, hr9, hTZ⟩ := hrZ; subst hr9; have N9Z := news_swap NZ; clear NZ; have NZ := N9Z; clear N9Z; (try simp only [List.cons_append, List.nil_append] at NZ); (obtain ⟨⟨hq1, hq2⟩, hq3⟩ := cell_apart NZ (by assumption) hTZ (by assumption)))); walk_at "mine:f"))) | ((with_reducible show wpAny _ _ (call (.ref 648) _) _ _ _); (k_dflt (refine' Does.nil (law_deck_does _ _ _ _ ?hi ?hl) ?uB ?uF ?uX ?uN ?uT ?uk ?uP ?ud ?uu ?_; walk_at "mine:n"; (case hi => assumption); (case hl => assumption); k_whole; intro rZ nxZ hZ tkZ FZ NZ hrZ; (try dsimp only at hrZ); ((obtain ⟨dkZ, lcZ, hr9, hD9⟩ := hrZ; obtain ⟨o1Z, o2Z, hn9, hDZ⟩ := deck_two hD9; subst hr9; subst hn9; clear hD9)); walk_at "mine:f")))) | ((with_reducible show wpAny _ _ (compareOp .NotEq (.ref _) (.ref _)) _ _ _); (refine halt ?_)) | ((with_reducible show wpAny _ _ (exec (.For _ _ _ _ _) _) _ _ _); (refine halt ?_)) | ((with_reducible show wpAny _ _ (exec (.For _ _ _ _ _) _) _ _ _); (refine halt ?_)) | ((with_reducible show wpAny _ _ (exec (.For _ _ _ _ _) _) _ _ _); (refine halt ?_)) | ((with_reducible show wpAny _ _ (call (.builtin "len") _) _ _ _); (k_here; (with_reducible show wpAny _ _ (call (Value.builtin "len") [Value.str _ _]) _ _ _); k_dflt (refine' len_row ?qf ?_; (case qf => assumption); k_whole))) | ((with_reducible show wpAny _ _ (call (.builtin "str.join") _) _ _ _); (k_here; k_dflt (refine' join_sgs ?hl ?hi ?hx ?hw ?hr ?_; (case hl => exact News.isList (by k_asm) (by k_mem)); (case hi => assumption); (case hx => rfl); (case hw => assumption); (case hr => assumption)); intro tZ kZ)) | ((with_reducible show wpAny _ _ (eval (.ListComp _ _ _ _) _) _ _ _); (k_here; k_dflt (refine ListComp_W (F₀ := by k_asm) (by with_unfolding_all rfl) (by decide) (by rfl) (by decide) (by rfl) ?_))) | ((with_reducible show wpAny _ _ (eval (.Name _ _) _) _ _ _); (k_here; k_dflt (refine' nameX_L ?qF ?qv ?_ ?qa ?qb; (case qF => k_asm); (case qa => rfl); (case qb => rfl); (case qv => first | exact rfl | assumption); k_whole))) | ((with_reducible show wpAny _ _ (exec (.For _ _ _ _ _) _) _ _ _); (refine halt ?_)) | walk1 | (dsimp only; with_reducible show wpAny _ _ (call (.ref _) _) _ _ _) | (dsimp only; walk1) | (leave1; (try dsimp only))))
        all_goals w_report
end
end Mine
theorem PySem.Challenge.cw_np0101_01_holds : PySem.Challenge.rw_np0101_01.Holds :=
  Mine.top_try
