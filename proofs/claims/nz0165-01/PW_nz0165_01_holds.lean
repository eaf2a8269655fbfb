import PyProof.Rows.All
import Wide.All
import OpenK.AllK
import Wide.FinOn
import PyProof.SetNew
import PyProof.Rows.SetFrom
import PyProof.SetRoads
import Lean
import PySem.Challenge.RW_nz0165_01
set_option Elab.async false
set_option maxRecDepth 100000
set_option maxHeartbeats 8000000
set_option linter.all false
set_option genSizeOf false
set_option tactic.hygienic false
set_option compiler.extract_closed false
set_option bootstrap.genMatcherCode false
open PySem PySem.W PyProof.Rows
namespace Nz
noncomputable section
open PySem PySem.Spec PySem.Calls PyProof.Rows PySem.W
local macro_rules | `(tactic| walk_at "o")=>`(tactic| first | lia | omega)
noncomputable def de (P:Params) (x:String) (n:Nat) (v:Value):DictEntry:=⟨PyData.keyHash P (Str.ofString x),.str (Str.ofString x) n,v⟩
noncomputable def top (i:Nat):Stmt:=PySem.Challenge.pw_nz0165_01.main.body.getD i (.Pass ⟨0,0,0,0⟩)
noncomputable def inn (i j:Nat):Stmt:=match top i with
 | .ClassDef _ _ _ b ..=>b.getD j (.Pass ⟨0,0,0,0⟩)
 | s=>s
noncomputable def fo (s:Stmt) (q:String) (m:Value) (cl:List (Str × Addr)) (cd:Addr) (ct:Value):Obj:=match s with
 | .FunctionDef n as b _ _ _ sc ..=>⟨.type "function",none,.func { name:=n,qualname:=Str.ofString q,params:=as,body:=.stmts b,scope:=sc,globals:=3,closure:=cl,defaults:=.none,kwdefaults:=.none,pyModule:=m,code:=.ref cd,closureTuple:=ct },#[]⟩
 | _=>⟨.none,none,.plain,#[]⟩
noncomputable def co (n q:String) (t:Nat) (l k:Int) (r:Addr) (e:Int) (vs:List Value) (u:Nat):Obj:=
 ⟨.type "code",none,.fields ((Value.str (Str.ofString n) t::.str (Str.ofString q) (t+1)::.str "/claim/cut.py" (t+2)::.int l 0::.int k 0::.int 0 0::.int 0 0::.int 3 0::.ref r::.bool true::.int e 0::.ref (r+1)::(vs++[.int u 0,.int l 0,.str "/claim/cut.py" (u+1)]):List Value)).toArray,#[]⟩
noncomputable def KZ (P:Params):Frag:=
 (nat_lit 2,⟨.none,none,.dict #[de P "type.__subclasses__.Exception.0" 247 (.int 61 0),de P "type.__subclasses__.Exception.n" 248 (.int 1 0)] 2,#[]⟩) ::
 (nat_lit 3,⟨.type "dict",none,.dict #[de P "__name__" 165 (.str "law_nz0165_01" 1321),de P "__doc__" 166 (.none),de P "__package__" 167 (.none),de P "__loader__" 168 (.builtin "__main__.__loader__#opaque"),de P "__spec__" 169 (.none),de P "__annotations__" 170 (.ref 6),de P "__builtins__" 171 (.ref 4),de P "__file__" 173 (.str "/claim/cut.py" 172),de P "__cached__" 174 (.none),de P "_wall" 193 (.ref 21),de P "is_number" 202 (.ref 28),de P "are_same_sets" 210 (.ref 35),de P "SmtError" 250 (.ref 61),de P "SortFault" 273 (.ref 81),de P "LimitFault" 296 (.ref 100),de P "BOOL" 300 (.int 0 299),de P "WIDEST" 302 (.int 4096 301),de P "Bank" 580 (.ref 315),de P "BoolBank" 713 (.ref 420),de P "NumberBank" 826 (.ref 509),de P "TermBank" 981 (.ref 628),de P "MOST_ATOMS" 985 (.int 12 984),de P "BitJudge" 1320 (.ref 845),de P "_law_spots" 1328 (.ref 856),de P "_law_draw" 1337 (.ref 863),de P "_law_formula" 1347 (.ref 870),de P "_law_column" 1353 (.ref 875),de P "_law_holding" 1364 (.ref 882),de P "_law_met" 1370 (.ref 887),de P "_law_is_table_right" 1376 (.ref 892),de P "_law_row" 1390 (.ref 899),de P "_law_is_unequal_right" 1396 (.ref 904),de P "law" 1402 (.ref 909)] 33,#[]⟩) ::
 (nat_lit 314,⟨.type "dict",none,.dict #[de P "__module__" 310 (.str "minismt.terms" 297),de P "__firstlineno__" 314 (.int 29 313),de P "__init__" 321 (.ref 116),de P "sort_name" 329 (.ref 123),de P "declare_sort" 337 (.ref 130),de P "width_of" 345 (.ref 137),de P "is_number_sort" 353 (.ref 144),de P "is_free_sort" 361 (.ref 151),de P "declare_fun" 371 (.ref 158),de P "fresh_fun" 381 (.ref 165),de P "fresh_const" 390 (.ref 172),de P "fun_name" 398 (.ref 179),de P "fun_arg_sorts" 406 (.ref 186),de P "fun_result" 414 (.ref 193),de P "fun_count" 421 (.ref 200),de P "op" 429 (.ref 207),de P "args" 437 (.ref 214),de P "sort" 445 (.ref 221),de P "data" 453 (.ref 228),de P "width" 461 (.ref 235),de P "size" 468 (.ref 242),de P "make" 481 (.ref 249),de P "find_made" 492 (.ref 256),de P "is_value" 500 (.ref 263),de P "want" 510 (.ref 270),de P "want_all" 521 (.ref 277),de P "true_term" 528 (.ref 284),de P "false_term" 535 (.ref 291),de P "bool_term" 543 (.ref 298),de P "parts" 551 (.ref 305),de P "parts_of_all" 559 (.ref 312),de P "__static_attributes__" 573 (.ref 313),de P "__dict__" 575 (.ref 316),de P "__weakref__" 577 (.ref 317),de P "__doc__" 578 (.none)] 4,#[]⟩) ::
 (nat_lit 315,{ cls:=.type "type",data:=.cls { name:="Bank",bases:=[.type "object"],mro:=[.ref 315,.type "object"],ns:=314,qualname:="Bank",subclasses:=[.ref 420] },slots:=#[none,none,some (.str "Bank" 303),some (.str "Bank" 311),some (.builtin "object.__new__"),some (.bool true)] }) ::
 (nat_lit 419,⟨.type "dict",none,.dict #[de P "__module__" 588 (.str "minismt.terms" 297),de P "__firstlineno__" 592 (.int 143 591),de P "not_of" 600 (.ref 333),de P "and_of" 608 (.ref 340),de P "or_of" 616 (.ref 347),de P "xor_of" 625 (.ref 354),de P "implies_of" 634 (.ref 361),de P "iff" 643 (.ref 368),de P "eq" 652 (.ref 375),de P "distinct" 660 (.ref 382),de P "ite" 670 (.ref 389),de P "app" 682 (.ref 396),de P "folded" 691 (.ref 403),de P "with_args" 700 (.ref 410),de P "replaced" 709 (.ref 417),de P "__static_attributes__" 710 (.ref 418),de P "__doc__" 711 (.none)] 2,#[]⟩) ::
 (nat_lit 420,{ cls:=.type "type",data:=.cls { name:="BoolBank",bases:=[.ref 315],mro:=[.ref 420,.ref 315,.type "object"],ns:=419,qualname:="BoolBank",subclasses:=[.ref 509] },slots:=#[some (.ref 320),none,some (.str "BoolBank" 581),some (.str "BoolBank" 589),some (.builtin "object.__new__"),some (.bool true)] }) ::
 (nat_lit 508,⟨.type "dict",none,.dict #[de P "__module__" 721 (.str "minismt.terms" 297),de P "__firstlineno__" 725 (.int 195 724),de P "num" 734 (.ref 436),de P "want_number" 743 (.ref 443),de P "plus" 751 (.ref 450),de P "times_num" 760 (.ref 457),de P "times" 769 (.ref 464),de P "over_num" 778 (.ref 471),de P "negative" 786 (.ref 478),de P "minus" 795 (.ref 485),de P "le" 804 (.ref 492),de P "lt" 813 (.ref 499),de P "with_args" 822 (.ref 506),de P "__static_attributes__" 823 (.ref 507),de P "__doc__" 824 (.none)] 2,#[]⟩) ::
 (nat_lit 509,{ cls:=.type "type",data:=.cls { name:="NumberBank",bases:=[.ref 420],mro:=[.ref 509,.ref 420,.ref 315,.type "object"],ns:=508,qualname:="NumberBank",subclasses:=[.ref 628] },slots:=#[some (.ref 423),none,some (.str "NumberBank" 714),some (.str "NumberBank" 722),some (.builtin "object.__new__"),some (.bool true)] }) ::
 (nat_lit 627,⟨.type "dict",none,.dict #[de P "__module__" 834 (.str "minismt.terms" 297),de P "__firstlineno__" 838 (.int 229 837),de P "__init__" 846 (.ref 527),de P "bv_sort" 854 (.ref 534),de P "find_bv_sort" 862 (.ref 541),de P "want_bits" 871 (.ref 548),de P "bv_num" 880 (.ref 555),de P "bv_one" 889 (.ref 562),de P "bv_two" 899 (.ref 569),de P "concat" 908 (.ref 576),de P "extract" 918 (.ref 583),de P "zero_extend" 927 (.ref 590),de P "sign_extend" 936 (.ref 597),de P "want_place" 946 (.ref 604),de P "bit" 955 (.ref 611),de P "carry" 965 (.ref 618),de P "below" 975 (.ref 625),de P "__static_attributes__" 977 (.ref 626),de P "__doc__" 979 (.none)] 3,#[]⟩) ::
 (nat_lit 628,{ cls:=.type "type",data:=.cls { name:="TermBank",bases:=[.ref 509],mro:=[.ref 628,.ref 509,.ref 420,.ref 315,.type "object"],ns:=627,qualname:="TermBank" },slots:=#[some (.ref 512),none,some (.str "TermBank" 827),some (.str "TermBank" 835),some (.builtin "object.__new__"),some (.bool true)] }) ::
 (nat_lit 844,⟨.type "dict",none,.dict #[de P "__module__" 993 (.str "minismt.bitjudge" 982),de P "__firstlineno__" 997 (.int 308 996),de P "__init__" 1005 (.ref 644),de P "is_term" 1013 (.ref 651),de P "signed" 1022 (.ref 658),de P "fault" 1031 (.ref 665),de P "bit_key" 1041 (.ref 672),de P "bit" 1050 (.ref 679),de P "side" 1062 (.ref 686),de P "meaning" 1076 (.ref 693),de P "wanted_bit" 1092 (.ref 700),de P "wired_bit" 1105 (.ref 707),de P "side_meaning" 1121 (.ref 714),de P "order_meaning" 1136 (.ref 721),de P "equal_meaning" 1147 (.ref 728),de P "unequal_fault" 1153 (.ref 733),de P "unlike" 1162 (.ref 740),de P "table_fault" 1168 (.ref 745),de P "holds" 1180 (.ref 752),de P "opened_fault" 1191 (.ref 759),de P "worlds_fault" 1200 (.ref 766),de P "bit_of" 1209 (.ref 773),de P "made" 1220 (.ref 780),de P "shifted" 1230 (.ref 787),de P "expansion" 1238 (.ref 794),de P "expand_lines" 1247 (.ref 801),de P "division_lines" 1256 (.ref 808),de P "many_worlds" 1262 (.ref 813),de P "table" 1268 (.ref 818),de P "free_tables" 1274 (.ref 823),de P "column" 1280 (.ref 828),de P "reckon" 1295 (.ref 835),de P "reckon_bits" 1310 (.ref 842),de P "__static_attributes__" 1313 (.ref 843),de P "__dict__" 1315 (.ref 846),de P "__weakref__" 1317 (.ref 847),de P "__doc__" 1318 (.none)] 4,#[]⟩) ::
 (nat_lit 845,{ cls:=.type "type",data:=.cls { name:="BitJudge",bases:=[.type "object"],mro:=[.ref 845,.type "object"],ns:=844,qualname:="BitJudge" },slots:=#[none,none,some (.str "BitJudge" 986),some (.str "BitJudge" 994),some (.builtin "object.__new__"),some (.bool true)] }) ::
 (nat_lit 27,co "is_number" "is_number" 196 5 1 22 181 [.none,.ref 24,.ref 25,.ref 26] 200) ::
 (nat_lit 28,fo (top 2) "is_number" (.str "minismt.judges" 194) [] 27 .none) ::
 (nat_lit 34,co "are_same_sets" "are_same_sets" 203 7 2 29 181 [.none,.ref 31,.ref 32,.ref 33] 208) ::
 (nat_lit 35,fo (top 3) "are_same_sets" (.str "minismt.judges" 194) [] 34 .none) ::
 (nat_lit 115,co "__init__" "Bank.__init__" 315 31 1 110 181 [.none,.ref 112,.ref 113,.ref 114] 319) ::
 (nat_lit 116,fo (inn 11 0) "Bank.__init__" (.str "minismt.terms" 297) [] 115 .none) ::
 (nat_lit 157,co "declare_fun" "Bank.declare_fun" 362 61 4 152 181 [.none,.ref 154,.ref 155,.ref 156] 369) ::
 (nat_lit 158,fo (inn 11 6) "Bank.declare_fun" (.str "minismt.terms" 297) [] 157 .none) ::
 (nat_lit 171,co "fresh_const" "Bank.fresh_const" 382 70 3 166 181 [.none,.ref 168,.ref 169,.ref 170] 388) ::
 (nat_lit 172,fo (inn 11 8) "Bank.fresh_const" (.str "minismt.terms" 297) [] 171 .none) ::
 (nat_lit 206,co "op" "Bank.op" 422 85 2 201 181 [.none,.ref 203,.ref 204,.ref 205] 427) ::
 (nat_lit 207,fo (inn 11 13) "Bank.op" (.str "minismt.terms" 297) [] 206 .none) ::
 (nat_lit 213,co "args" "Bank.args" 430 88 2 208 181 [.none,.ref 210,.ref 211,.ref 212] 435) ::
 (nat_lit 214,fo (inn 11 14) "Bank.args" (.str "minismt.terms" 297) [] 213 .none) ::
 (nat_lit 220,co "sort" "Bank.sort" 438 91 2 215 181 [.none,.ref 217,.ref 218,.ref 219] 443) ::
 (nat_lit 221,fo (inn 11 15) "Bank.sort" (.str "minismt.terms" 297) [] 220 .none) ::
 (nat_lit 227,co "data" "Bank.data" 446 94 2 222 181 [.none,.ref 224,.ref 225,.ref 226] 451) ::
 (nat_lit 228,fo (inn 11 16) "Bank.data" (.str "minismt.terms" 297) [] 227 .none) ::
 (nat_lit 234,co "width" "Bank.width" 454 97 2 229 181 [.none,.ref 231,.ref 232,.ref 233] 459) ::
 (nat_lit 235,fo (inn 11 17) "Bank.width" (.str "minismt.terms" 297) [] 234 .none) ::
 (nat_lit 248,co "make" "Bank.make" 469 103 5 243 181 [.none,.ref 245,.ref 246,.ref 247] 479) ::
 (nat_lit 249,fo (inn 11 19) "Bank.make" (.str "minismt.terms" 297) [] 248 .none) ::
 (nat_lit 255,co "find_made" "Bank.find_made" 482 115 5 250 181 [.none,.ref 252,.ref 253,.ref 254] 490) ::
 (nat_lit 256,fo (inn 11 20) "Bank.find_made" (.str "minismt.terms" 297) [] 255 .none) ::
 (nat_lit 269,co "want" "Bank.want" 501 121 4 264 181 [.none,.ref 266,.ref 267,.ref 268] 508) ::
 (nat_lit 270,fo (inn 11 22) "Bank.want" (.str "minismt.terms" 297) [] 269 .none) ::
 (nat_lit 276,co "want_all" "Bank.want_all" 511 125 4 271 181 [.none,.ref 273,.ref 274,.ref 275] 519) ::
 (nat_lit 277,fo (inn 11 23) "Bank.want_all" (.str "minismt.terms" 297) [] 276 .none) ::
 (nat_lit 353,co "xor_of" "BoolBank.xor_of" 617 154 3 348 181 [.none,.ref 350,.ref 351,.ref 352] 623) ::
 (nat_lit 354,fo (inn 12 3) "BoolBank.xor_of" (.str "minismt.terms" 297) [] 353 .none) ::
 (nat_lit 374,co "eq" "BoolBank.eq" 644 165 3 369 181 [.none,.ref 371,.ref 372,.ref 373] 650) ::
 (nat_lit 375,fo (inn 12 6) "BoolBank.eq" (.str "minismt.terms" 297) [] 374 .none) ::
 (nat_lit 526,co "__init__" "TermBank.__init__" 839 231 1 521 181 [.none,.ref 523,.ref 524,.ref 525] 844) ::
 (nat_lit 527,fo (inn 14 0) "TermBank.__init__" (.str "minismt.terms" 297) [("__class__",515)] 526 (.ref 520)) ::
 (nat_lit 533,co "bv_sort" "TermBank.bv_sort" 847 235 2 528 181 [.none,.ref 530,.ref 531,.ref 532] 852) ::
 (nat_lit 534,fo (inn 14 1) "TermBank.bv_sort" (.str "minismt.terms" 297) [] 533 .none) ::
 (nat_lit 547,co "want_bits" "TermBank.want_bits" 863 249 3 542 181 [.none,.ref 544,.ref 545,.ref 546] 869) ::
 (nat_lit 548,fo (inn 14 3) "TermBank.want_bits" (.str "minismt.terms" 297) [] 547 .none) ::
 (nat_lit 610,co "bit" "TermBank.bit" 947 289 3 605 181 [.none,.ref 607,.ref 608,.ref 609] 953) ::
 (nat_lit 611,fo (inn 14 12) "TermBank.bit" (.str "minismt.terms" 297) [] 610 .none) ::
 (nat_lit 643,co "__init__" "BitJudge.__init__" 998 310 2 638 181 [.none,.ref 640,.ref 641,.ref 642] 1003) ::
 (nat_lit 644,fo (inn 17 0) "BitJudge.__init__" (.str "minismt.bitjudge" 982) [] 643 .none) ::
 (nat_lit 671,co "bit_key" "BitJudge.bit_key" 1032 327 3 666 181 [.none,.ref 668,.ref 669,.ref 670] 1039) ::
 (nat_lit 672,fo (inn 17 4) "BitJudge.bit_key" (.str "minismt.bitjudge" 982) [] 671 .none) ::
 (nat_lit 732,co "unequal_fault" "BitJudge.unequal_fault" 1148 424 3 729 181 [.none,.none,.none,.ref 731] 1151) ::
 (nat_lit 733,fo (inn 17 13) "BitJudge.unequal_fault" (.str "minismt.bitjudge" 982) [] 732 .none) ::
 (nat_lit 739,co "unlike" "BitJudge.unlike" 1154 439 3 734 181 [.none,.ref 736,.ref 737,.ref 738] 1160) ::
 (nat_lit 740,fo (inn 17 14) "BitJudge.unlike" (.str "minismt.bitjudge" 982) [] 739 .none) ::
 (nat_lit 744,co "table_fault" "BitJudge.table_fault" 1163 442 3 741 181 [.none,.none,.none,.ref 743] 1166) ::
 (nat_lit 745,fo (inn 17 15) "BitJudge.table_fault" (.str "minismt.bitjudge" 982) [] 744 .none) ::
 (nat_lit 751,co "holds" "BitJudge.holds" 1169 465 3 746 181 [.none,.ref 748,.ref 749,.ref 750] 1178) ::
 (nat_lit 752,fo (inn 17 16) "BitJudge.holds" (.str "minismt.bitjudge" 982) [] 751 .none) ::
 (nat_lit 855,co "_law_spots" "_law_spots" 1323 627 0 850 181 [.none,.ref 852,.ref 853,.ref 854] 1326) ::
 (nat_lit 856,fo (top 19) "_law_spots" (.str "law_nz0165_01" 1321) [] 855 .none) ::
 (nat_lit 862,co "_law_draw" "_law_draw" 1329 629 2 857 181 [.none,.ref 859,.ref 860,.ref 861] 1335) ::
 (nat_lit 863,fo (top 20) "_law_draw" (.str "law_nz0165_01" 1321) [] 862 .none) ::
 (nat_lit 869,co "_law_formula" "_law_formula" 1338 635 2 864 181 [.none,.ref 866,.ref 867,.ref 868] 1345) ::
 (nat_lit 870,fo (top 21) "_law_formula" (.str "law_nz0165_01" 1321) [] 869 .none) ::
 (nat_lit 874,co "_law_column" "_law_column" 1348 645 1 871 181 [.none,.none,.none,.ref 873] 1351) ::
 (nat_lit 875,fo (top 22) "_law_column" (.str "law_nz0165_01" 1321) [] 874 .none) ::
 (nat_lit 881,co "_law_holding" "_law_holding" 1354 647 1 876 181 [.none,.ref 878,.ref 879,.ref 880] 1362) ::
 (nat_lit 882,fo (top 23) "_law_holding" (.str "law_nz0165_01" 1321) [] 881 .none) ::
 (nat_lit 886,co "_law_met" "_law_met" 1365 660 1 883 181 [.none,.none,.none,.ref 885] 1368) ::
 (nat_lit 887,fo (top 24) "_law_met" (.str "law_nz0165_01" 1321) [] 886 .none) ::
 (nat_lit 891,co "_law_is_table_right" "_law_is_table_right" 1371 664 2 888 181 [.none,.none,.none,.ref 890] 1374) ::
 (nat_lit 892,fo (top 25) "_law_is_table_right" (.str "law_nz0165_01" 1321) [] 891 .none) ::
 (nat_lit 898,co "_law_row" "_law_row" 1377 678 5 893 181 [.none,.ref 895,.ref 896,.ref 897] 1388) ::
 (nat_lit 899,fo (top 26) "_law_row" (.str "law_nz0165_01" 1321) [] 898 .none) ::
 (nat_lit 903,co "_law_is_unequal_right" "_law_is_unequal_right" 1391 686 3 900 181 [.none,.none,.none,.ref 902] 1394) ::
 (nat_lit 904,fo (top 27) "_law_is_unequal_right" (.str "law_nz0165_01" 1321) [] 903 .none) ::
 (nat_lit 908,co "law" "law" 1397 708 1 905 181 [.none,.none,.none,.ref 907] 1400) ::
 (nat_lit 909,fo (top 28) "law" (.str "law_nz0165_01" 1321) [] 908 .none) ::
 (nat_lit 515,⟨.type "cell",none,.cell (some (.ref 628)),#[]⟩)::[]
theorem len0 {α:Type}:∀ {vs:List α},vs.length=0→vs=[]
 | [],_=>rfl
theorem lenS {α:Type} {n:Nat} {vs:List α} (h:vs.length=n+1):∃ a r,vs=a::r∧r.length=n:=by
 cases vs with
 | nil=>cases h
 | cons a r=>exact ⟨a,r,rfl,Nat.succ.inj h⟩
theorem len1 {α:Type} {vs:List α} (h:vs.length=1):∃ a0,vs=[a0]:=by
 obtain ⟨a,r,rfl,h'⟩:=lenS h
 exact ⟨a,by rw [len0 h']⟩
theorem len2 {α:Type} {vs:List α} (h:vs.length=2):∃ a0 a1,vs=[a0,a1]:=by
 obtain ⟨a,r,rfl,h'⟩:=lenS h
 obtain ⟨a1,rfl⟩:=len1 h'
 exact ⟨a,a1,rfl⟩
theorem len3 {α:Type} {vs:List α} (h:vs.length=3):∃ a0 a1 a2,vs=[a0,a1,a2]:=by
 obtain ⟨a,r,rfl,h'⟩:=lenS h
 obtain ⟨a1,a2,rfl⟩:=len2 h'
 exact ⟨a,a1,a2,rfl⟩
theorem len4 {α:Type} {vs:List α} (h:vs.length=4):∃ a0 a1 a2 a3,vs=[a0,a1,a2,a3]:=by
 obtain ⟨a,r,rfl,h'⟩:=lenS h
 obtain ⟨a1,a2,a3,rfl⟩:=len3 h'
 exact ⟨a,a1,a2,a3,rfl⟩
theorem len5 {α:Type} {vs:List α} (h:vs.length=5):∃ a0 a1 a2 a3 a4,vs=[a0,a1,a2,a3,a4]:=by
 obtain ⟨a,r,rfl,h'⟩:=lenS h
 obtain ⟨a1,a2,a3,a4,rfl⟩:=len4 h'
 exact ⟨a,a1,a2,a3,a4,rfl⟩
local macro_rules | `(tactic| walk_at "nz bind")=>`(tactic| (intro vs h;first | (obtain ⟨_,e⟩:=len1 h;subst e;exact rfl) | (obtain ⟨_,_,e⟩:=len2 h;subst e;exact rfl) | (obtain ⟨_,_,_,e⟩:=len3 h;subst e;exact rfl) | (obtain ⟨_,_,_,_,e⟩:=len4 h;subst e;exact rfl) | (obtain ⟨_,_,_,_,_,e⟩:=len5 h;subst e;exact rfl) | (have e:=len0 h;subst e;exact rfl)))
theorem fillit:PySem.Challenge.rw_nz0165_01.foot=PySem.Challenge.rw_nz0165_01.foot∧KZ=KZ:=by k_fill;exact ⟨rfl,rfl⟩
section
theorem runs_toks {M:Model} {Γ:PySem.Ctx} {p:Pos} {t:Sem Fin} {fs:List Frame} {s s':Shared} {e:End} (h:Runs M Γ p t fs s e s'):s.toks≤s'.toks:=by
 induction h with
 | fresh _ ih=>exact Nat.le_of_succ_le ih
 | call _ _ ih1 ih2=>exact Nat.le_trans ih1 ih2
 | resumeFresh _ _ _ _ ih1 ih2=>exact Nat.le_trans ih1 ih2
 | resumeSuspended _ _ _ _ ih1 ih2=>exact Nat.le_trans ih1 ih2
 | segRet _ _ ih1 ih2=>exact Nat.le_trans ih1 ih2
 | segGen _ _ ih1 ih2=>exact Nat.le_trans ih1 ih2
 | segSuspGen _ _ _ _ ih1 ih2=>exact Nat.le_trans ih1 ih2
 | _=>first | assumption | exact Nat.le_refl _
theorem wakes_toks {M:Model} {Γ:PySem.Ctx} {p:Pos} {g:Nat} {r:Resume} {s s':Shared} {res:GenResult} (h:Wakes M Γ p g r s res s'):s.toks≤s'.toks:=by
 unfold Wakes at h
 split at h
 exact h.elim
 ·split at h
  ·obtain ⟨e₁,s₁,h1,_,_,rfl⟩:=h
   have:=runs_toks h1;exact this
  ·obtain ⟨_,rfl⟩:=h;exact Nat.le_refl _
  obtain ⟨_,rfl⟩:=h;exact Nat.le_refl _
 ·obtain ⟨e₁,s₁,h1,_,_,rfl⟩:=h
  have:=runs_toks h1;exact this
 ·obtain ⟨_,rfl⟩:=h;exact Nat.le_refl _
 obtain ⟨_,rfl⟩:=h;exact Nat.le_refl _
theorem wp_toks {α:Type} {M:Model} {Γ:PySem.Ctx} (n:Nat):∀ (t:Sem α) (Q:α→Pos→Shared→Prop) (E:Value→Pos→Shared→Prop) (p:Pos) (s:Shared),n≤s.toks→Sem.wp M Γ t Q E p s→Sem.wp M Γ t (fun a p s'=>n≤s'.toks∧Q a p s') E p s:=by
 intro t
 induction t with
 | pure a=>intro Q E p s hn h;rw [Sem.wp] at h ⊢;exact ⟨hn,h⟩
 | raise e=>intro Q E p s hn h;rw [Sem.wp] at h ⊢;exact h
 | load a part k ih=>intro Q E p s hn h;rw [Sem.wp] at h ⊢;obtain ⟨o,h1,h2⟩:=h;exact ⟨o,h1,ih _ _ _ _ _ hn h2⟩
 | update a part f k ih=>intro Q E p s hn h;rw [Sem.wp] at h ⊢;exact ⟨h.1,ih _ _ _ _ _ hn h.2⟩
 | fresh k ih=>intro Q E p s hn h;rw [Sem.wp] at h ⊢;exact ih _ _ _ _ _ (Nat.le_succ_of_le hn) h
 | choose src m k ih=>intro Q E p s hn h;rw [Sem.wp] at h ⊢;exact ⟨h.1,ih _ _ _ _ _ hn h.2⟩
 | call c hd g l k ih=>
  intro Q E p s hn h;rw [Sem.wp] at h ⊢
  obtain ⟨r,s₁,h1,h2⟩:=h
  exact ⟨r,s₁,h1,ih _ _ _ _ _ (Nat.le_trans hn (runs_toks h1)) h2⟩
 | genState g k ih=>intro Q E p s hn h;rw [Sem.wp] at h ⊢;obtain ⟨o,h1,h2⟩:=h;exact ⟨o,h1,ih _ _ _ _ _ hn h2⟩
 | resume g r l k ih=>
  intro Q E p s hn h;rw [Sem.wp] at h ⊢
  obtain ⟨res,s₁,h1,h2⟩:=h
  exact ⟨res,s₁,h1,ih _ _ _ _ _ (Nat.le_trans hn (wakes_toks h1)) h2⟩
 | rule tag k ih=>intro Q E p s hn h;rw [Sem.wp] at h ⊢;exact ih _ _ _ _ _ hn h
 | «at» p' k ih=>intro Q E p s hn h;rw [Sem.wp] at h ⊢;exact ih _ _ _ _ _ hn h
 | loadIfAlive a k ih=>intro Q E p s hn h;rw [Sem.wp] at h ⊢;exact ih _ _ _ _ _ hn h
 | point l k ih=>intro Q E p s hn h;rw [Sem.wp] at h ⊢;exact ih _ _ _ _ _ hn h
 | alloc o k ih=>intro Q E p s hn h;rw [Sem.wp] at h ⊢;exact ih _ _ _ _ _ hn h
 | ask k ih=>intro Q E p s hn h;rw [Sem.wp] at h ⊢;exact ih _ _ _ _ _ hn h
 | os q l k ih=>intro Q E p s hn h;rw [Sem.wp] at h ⊢;exact ih _ _ _ _ _ hn h
 | handled own k ih=>intro Q E p s hn h;rw [Sem.wp] at h ⊢;exact ih _ _ _ _ _ hn h
 | newGen c k ih=>intro Q E p s hn h;rw [Sem.wp] at h ⊢;exact ih _ _ _ _ _ hn h
 | stack k ih=>intro Q E p s hn h;rw [Sem.wp] at h ⊢;exact ih _ _ _ _ _ hn h
 | thread k ih=>intro Q E p s hn h;rw [Sem.wp] at h ⊢;exact ih _ _ _ _ _ hn h
 | _=>intro Q E p s hn h;rw [Sem.wp] at h;exact h.elim
theorem wpAny_pos {α:Type} {M:Model} {A:Around} {t:Sem α} {Q:α→Shared→Prop} {E:Value→Shared→Prop} {s:Shared} (hs:0<s.toks) (h:wpAny M A t (fun v s'=>0<s'.toks→Q v s') E s):wpAny M A t Q E s:=fun Γ p hΓ=>
 Sem.wp_mono M Γ t (fun a _ s' (k:1≤s'.toks∧(0<s'.toks→Q a s'))=>k.2 k.1) (fun _u _u _u k=>k) p s (wp_toks 1 t _ _ p s hs (h Γ p hΓ))
end
section

mutual
inductive Rd (V:Addr→Prop) (h:Heap):Value→PyData→Prop
 | none:Rd V h .none .none
 | bool (b:Bool):Rd V h (.bool b) (.bool b)
 | int (i:Int) (t:Tok):Rd V h (.int i t) (.int i)
 | str (x:Str) (t:Tok):Rd V h (.str x t) (.str x)
 | mark (i:Int) {t:Tok}:t≠0→Rd V h (.int i t) (.dict [(.int i,.none)])
 | list {a:Addr} {o:Obj} {vs:Array Value} {n:Nat} {xs:List PyData}:¬V a→h.get? a=some o→(o.cls=.type "list"∧o.dict=Option.none∧o.slots = #[])→o.data=.seq vs n→RdAll V h vs.toList xs→Rd V h (.ref a) (.list xs)
 | tuple {a:Addr} {o:Obj} {vs:Array Value} {n:Nat} {xs:List PyData}:¬V a→h.get? a=some o→(o.cls=.type "tuple"∧o.dict=Option.none∧o.slots = #[])→o.data=.seq vs n→RdAll V h vs.toList xs→Rd V h (.ref a) (.tuple xs)
inductive RdAll (V:Addr→Prop) (h:Heap):List Value→List PyData→Prop
 | nil:RdAll V h [] []
 | cons {v:Value} {vs:List Value} {d:PyData} {ds:List PyData}:Rd V h v d→RdAll V h vs ds→RdAll V h (v::vs) (d::ds)
end
theorem Rd.ofInt {V:Addr→Prop} {h:Heap} {v:Value} {i:Int} (r:Rd V h v (.int i)):∃ t,v=.int i t:=by cases r;exact ⟨_,rfl⟩
theorem Rd.ofBool {V:Addr→Prop} {h:Heap} {v:Value} {b:Bool} (r:Rd V h v (.bool b)):v=.bool b:=by cases r;rfl
theorem Rd.ofStr {V:Addr→Prop} {h:Heap} {v:Value} {x:Str} (r:Rd V h v (.str x)):∃ t,v=.str x t:=by cases r;exact ⟨_,rfl⟩
theorem Rd.ofMark {V:Addr→Prop} {h:Heap} {v:Value} {i:Int} (r:Rd V h v (.dict [(.int i,.none)])):∃ t,t≠0∧v=.int i t:=by cases r;exact ⟨_,by assumption,rfl⟩
theorem Rd.ofTuple {V:Addr→Prop} {h:Heap} {v:Value} {xs:List PyData} {P:Prop} (r:Rd V h v (.tuple xs)) (k:∀ a o (vs:Array Value) n,¬V a→h.get? a=some o→(o.cls=.type "tuple"∧o.dict=Option.none∧o.slots = #[])→o.data=.seq vs n→RdAll V h vs.toList xs→v=.ref a→P):P:=by
 cases r with
 | tuple a b c d e=>exact k _ _ _ _ a b c d e rfl
theorem Rd.ofList {V:Addr→Prop} {h:Heap} {v:Value} {xs:List PyData} {P:Prop} (r:Rd V h v (.list xs)) (k:∀ a o (vs:Array Value) n,¬V a→h.get? a=some o→(o.cls=.type "list"∧o.dict=Option.none∧o.slots = #[])→o.data=.seq vs n→RdAll V h vs.toList xs→v=.ref a→P):P:=by
 cases r with
 | list a b c d e=>exact k _ _ _ _ a b c d e rfl
theorem RdAll.uncons {V:Addr→Prop} {h:Heap} {v:Value} {vs:List Value} {ds:List PyData} {P:Prop} (r:RdAll V h (v::vs) ds) (k:∀ d ds',Rd V h v d→RdAll V h vs ds'→ds=d::ds'→P):P:=by
 cases r with
 | cons a b=>exact k _ _ a b rfl
noncomputable def Grow (X:Addr→Prop) (h h':Heap):Prop:=∀ a o,h.get? a=some o→¬X a→h'.get? a=some o
theorem none_size (h:Heap) {a:Addr} (ha:h.objs.size≤a):h.get? a=none:=by
 cases e:h.get? a with
 | none=>rfl
 | some o=>exact absurd (Heap.lt_size e) (Nat.not_lt.mpr ha)
theorem Grow.refl (X:Addr→Prop) (h:Heap):Grow X h h:=fun _u _u e _u=>e
theorem Grow.trans {X:Addr→Prop} {h h' h'':Heap} (a:Grow X h h') (b:Grow X h' h''):Grow X h h'':=fun x o e n=>b x o (a x o e n) n
theorem Grow.mono {X Y:Addr→Prop} {h h':Heap} (a:Grow X h h') (xy:∀ a,X a→Y a):Grow Y h h':=fun x o e n=>a x o e fun k=>n (xy x k)
theorem Grow.of {X:Addr→Prop} {h h':Heap} (k:∀ a o,h.get? a=some o→h'.get? a=some o):Grow X h h':=fun a o e _u=>k a o e
theorem Grow.push {X:Addr→Prop} (h:Heap) (o:Obj):Grow X h (h.push o):=.of fun _u _u e=>Heap.get?_push_of_some _ e
theorem Grow.same {X:Addr→Prop} {h h':Heap} {x:Addr} (s:Heap.SameBut x h h') (hx:X x):Grow X h h':=fun a o e n=>s.extBut a o (fun q=>n (q▸hx)) e
theorem Grow.drop {X Y:Addr→Prop} {h h':Heap} (a:Grow X h h') (xy:∀ a,X a→Y a∨h.get? a=none):Grow Y h h':=
 fun x o e n=>a x o e fun k=>(xy x k).elim n fun q=>by rw [q] at e;cases e
theorem Rd.walk {V:Addr→Prop} {h:Heap} {P:Value→PyData→Prop} {Ps:List Value→List PyData→Prop} (h1:P .none .none) (h2:∀ b,P (.bool b) (.bool b)) (h3:∀ i t,P (.int i t) (.int i)) (h4:∀ x t,P (.str x t) (.str x)) (h5:∀ i t,t≠0→P (.int i t) (.dict [(.int i,.none)]))
  (h6:∀ {a o vs n xs},¬V a→h.get? a=some o→(o.cls=.type "list"∧o.dict=Option.none∧o.slots = #[])→o.data=.seq vs n→Ps vs.toList xs→P (.ref a) (.list xs))
  (h7:∀ {a o vs n xs},¬V a→h.get? a=some o→(o.cls=.type "tuple"∧o.dict=Option.none∧o.slots = #[])→o.data=.seq vs n→Ps vs.toList xs→P (.ref a) (.tuple xs))
  (h8:Ps [] []) (h9:∀ {v vs d ds},P v d→Ps vs ds→Ps (v::vs) (d::ds)):(∀ {v d},Rd V h v d→P v d)∧∀ {vs ds},RdAll V h vs ds→Ps vs ds:=
 ⟨fun r=>r.rec (motive_1:=fun v d _u=>P v d) (motive_2:=fun v d _u=>Ps v d) h1 h2 h3 h4 (fun i _u n=>h5 i _ n) (fun n e c d _u r=>h6 n e c d r) (fun n e c d _u r=>h7 n e c d r) h8 fun _u _u a b=>h9 a b,
  fun r=>r.rec (motive_1:=fun v d _u=>P v d) (motive_2:=fun v d _u=>Ps v d) h1 h2 h3 h4 (fun i _u n=>h5 i _ n) (fun n e c d _u r=>h6 n e c d r) (fun n e c d _u r=>h7 n e c d r) h8 fun _u _u a b=>h9 a b⟩
theorem Rd.turn {V V':Addr→Prop} {h h':Heap} (k:∀ a o,¬V a→h.get? a=some o→¬V' a∧h'.get? a=some o):(∀ {v d},Rd V h v d→Rd V' h' v d)∧∀ {vs ds},RdAll V h vs ds→RdAll V' h' vs ds:=
 Rd.walk .none .bool .int .str (fun i _u n=>.mark i n) (fun n e c d r=>.list (k _ _ n e).1 (k _ _ n e).2 c d r) (fun n e c d r=>.tuple (k _ _ n e).1 (k _ _ n e).2 c d r) .nil .cons
theorem Rd.grow {V X:Addr→Prop} {h h':Heap} (g:Grow X h h') (xv:∀ a,X a→V a) {v:Value} {d:PyData} (r:Rd V h v d):Rd V h' v d:=(Rd.turn fun a o n e=>⟨n,g a o e fun q=>n (xv a q)⟩).1 r
theorem RdAll.grow {V X:Addr→Prop} {h h':Heap} (g:Grow X h h') (xv:∀ a,X a→V a) {v:List Value} {d:List PyData} (r:RdAll V h v d):RdAll V h' v d:=(Rd.turn fun a o n e=>⟨n,g a o e fun q=>n (xv a q)⟩).2 r
theorem Rd.to {V V':Addr→Prop} {h:Heap} (vv:∀ a,V' a→V a∨h.get? a=Option.none) {v:Value} {d:PyData} (r:Rd V h v d):Rd V' h v d:=(Rd.turn fun a o n e=>⟨fun q=>(vv a q).elim n fun k=>(by rw [k] at e;cases e),e⟩).1 r
theorem RdAll.to {V V':Addr→Prop} {h:Heap} (vv:∀ a,V' a→V a∨h.get? a=Option.none) {v:List Value} {d:List PyData} (r:RdAll V h v d):RdAll V' h v d:=(Rd.turn fun a o n e=>⟨fun q=>(vv a q).elim n fun k=>(by rw [k] at e;cases e),e⟩).2 r
theorem Rd.reads2 {V:Addr→Prop} {h:Heap}:(∀ {v d},Rd V h v d→d.canLay0=true→∃ as,Reads h v d as)∧∀ {vs ds},RdAll V h vs ds→PyData.canLayAll0 ds=true→∃ as,ReadsAll h vs ds as:=
 Rd.walk (fun _u=>⟨_,.none⟩) (fun b _u=>⟨_,.bool b⟩) (fun i t _u=>⟨_,.int i t⟩) (fun x t _u=>⟨_,.str x t⟩) (fun i t _u k=>by simp [PyData.canLay0] at k) (fun _u e c d r k=>let ⟨as,q⟩:=r (by simpa [PyData.canLay0] using k);⟨_,.list e c.1 d q⟩) (fun _u e c d r k=>let ⟨as,q⟩:=r (by simpa [PyData.canLay0] using k);⟨_,.tuple e c.1 d q⟩)
  (fun _u=>⟨_,.nil⟩) fun a b k=>have k:=Bool.and_eq_true_iff.mp (by simpa [PyData.canLayAll0] using k);let ⟨_,p⟩:=a k.1;let ⟨_,q⟩:=b k.2;⟨_,.cons p q⟩
theorem Rd.reads {V:Addr→Prop} {h:Heap} {v:Value} {d:PyData} (k:d.canLay0=true) (r:Rd V h v d):∃ as,Reads h v d as:=Rd.reads2.1 r k
mutual
noncomputable def fgt:PyData→PyData
 | .list xs=>.list (fgtAll xs)
 | .tuple xs=>.tuple (fgtAll xs)
 | .dict [(.int i,.none)]=>.int i
 | d=>d
noncomputable def fgtAll:List PyData→List PyData
 | []=>[]
 | x::xs=>fgt x::fgtAll xs
end
theorem Rd.fgt2 {V:Addr→Prop} {h:Heap}:(∀ {v d},Rd V h v d→Rd V h v (Nz.fgt d))∧∀ {vs ds},RdAll V h vs ds→RdAll V h vs (fgtAll ds):=
 Rd.walk Rd.none (fun b=>Rd.bool b) (fun i t=>Rd.int i t) (fun x t=>Rd.str x t) (fun i t n=>Rd.int i t)
  (fun n e c d r=>Rd.list n e c d r) (fun n e c d r=>Rd.tuple n e c d r) RdAll.nil fun a b=>RdAll.cons a b
theorem Rd.fgt {V:Addr→Prop} {h:Heap} {v:Value} {d:PyData} (r:Rd V h v d):Rd V h v (Nz.fgt d):=Rd.fgt2.1 r
theorem RdAll.ind {V:Addr→Prop} {h:Heap} {P:List Value→List PyData→Prop} (h1:P [] []) (h2:∀ {v vs d ds},Rd V h v d→RdAll V h vs ds→P vs ds→P (v::vs) (d::ds)) {vs:List Value} {ds:List PyData} (r:RdAll V h vs ds):P vs ds:=
 r.rec (motive_1:=fun _u _u _u=>True) (motive_2:=fun v d _u=>P v d) trivial (fun _u=>trivial) (fun _u _u=>trivial) (fun _u _u=>trivial) (fun _u _u _u=>trivial) (fun _u _u _u _u _u _u=>trivial) (fun _u _u _u _u _u _u=>trivial) h1 fun a b _u ih=>h2 a b ih
theorem RdAll.length {V:Addr→Prop} {h:Heap} {v:List Value} {d:List PyData} (r:RdAll V h v d):v.length=d.length:=r.ind (P:=fun v d=>v.length=d.length) rfl fun _u _u ih=>congrArg (·+1) ih
theorem RdAll.append {V:Addr→Prop} {h:Heap} {v v':List Value} {d d':List PyData} (r:RdAll V h v d) (q:RdAll V h v' d'):RdAll V h (v++v') (d++d'):=r.ind (P:=fun v d=>RdAll V h (v++v') (d++d')) q fun a _u ih=>.cons a ih
theorem RdAll.get {V:Addr→Prop} {h:Heap} {v:List Value} {d:List PyData} (r:RdAll V h v d):∀ {i:Nat} {x:PyData},d[i]?=some x→∃ y,v[i]?=some y∧Rd V h y x:=
 r.ind (P:=fun v d=>∀ {i:Nat} {x:PyData},d[i]?=some x→∃ y,v[i]?=some y∧Rd V h y x) (fun e=>by cases e) fun {v vs d ds} a _ ih {i x} e=>by
  cases i with
  | zero=>cases e;exact ⟨_,rfl,a⟩
  | succ i=>exact ih (i:=i) e
theorem RdAll.take {V:Addr→Prop} {h:Heap} {v:List Value} {d:List PyData} (n:Nat) (r:RdAll V h v d):RdAll V h (v.take n) (d.take n):=
 r.ind (P:=fun v d=>∀ n,RdAll V h (v.take n) (d.take n)) (fun n=>by cases n <;> exact .nil) (fun a _u ih n=>by cases n with | zero=>exact .nil | succ n=>exact .cons a (ih n)) n
theorem RdAll.drop {V:Addr→Prop} {h:Heap} {v:List Value} {d:List PyData} (n:Nat) (r:RdAll V h v d):RdAll V h (v.drop n) (d.drop n):=
 r.ind (P:=fun v d=>∀ n,RdAll V h (v.drop n) (d.drop n)) (fun n=>by cases n <;> exact .nil) (fun a b ih n=>by cases n with | zero=>exact .cons a b | succ n=>exact ih n) n
theorem RdAll.reverse {V:Addr→Prop} {h:Heap} {v:List Value} {d:List PyData} (r:RdAll V h v d):RdAll V h v.reverse d.reverse:=
 r.ind (P:=fun v d=>RdAll V h v.reverse d.reverse) .nil fun a _u ih=>by rw [List.reverse_cons,List.reverse_cons];exact ih.append (.cons a .nil)
end
section

inductive AV
 | d (x:PyData)
 | v (x:Value)
 | rg (n:Nat)
inductive Mut
 | list (xs:List PyData)
 | dict (kvs:List (PyData × AV))
 | raw (o:Obj)
noncomputable abbrev Sto:=Addr→Option Mut
noncomputable def VR (V:Addr→Prop) (h:Heap) (v:Value):AV→Prop
 | .d x=>Rd V h v x
 | .v x=>v=x
 | .rg n=>∃ a t u w,v=.ref a∧¬V a∧IsRange h a 0 n 1 t u w
theorem VR.grow {V X:Addr→Prop} {h h':Heap} {v:Value} {a:AV} (r:VR V h v a) (g:Grow X h h') (xv:∀ a,X a→V a):VR V h' v a:=by
 cases a with
 | d x=>exact Rd.grow g xv r
 | v x=>exact r
 | rg n=>obtain ⟨a,t,u,w,e,n,i⟩:=r;exact ⟨a,t,u,w,e,n,g _ _ i fun k=>n (xv _ k)⟩
theorem VR.to {V V':Addr→Prop} {h:Heap} {v:Value} {a:AV} (r:VR V h v a) (vv:∀ a,V' a→V a∨h.get? a=none):VR V' h v a:=by
 cases a with
 | d x=>exact Rd.to vv r
 | v x=>exact r
 | rg n=>obtain ⟨a,t,u,w,e,n,i⟩:=r;exact ⟨a,t,u,w,e,fun k=>(vv _ k).elim n fun q=>(by have i:h.get? a=some _:=i;rw [q] at i;cases i),i⟩
inductive VRs (V:Addr→Prop) (h:Heap):List Value→List AV→Prop
 | nil:VRs V h [] []
 | cons {v vs a as}:VR V h v a→VRs V h vs as→VRs V h (v::vs) (a::as)
theorem VRs.grow {V X:Addr→Prop} {h h':Heap} {v:List Value} {a:List AV} (r:VRs V h v a) (g:Grow X h h') (xv:∀ a,X a→V a):VRs V h' v a:=by
 induction r with
 | nil=>exact .nil
 | cons a _ ih=>exact .cons (a.grow g xv) ih
theorem VRs.data {V:Addr→Prop} {h:Heap}:∀ {vs:List Value} {ds:List PyData},VRs V h vs (ds.map AV.d)→RdAll V h vs ds
 | _,[],.nil=>.nil
 | _,_::_,.cons a b=>.cons a (VRs.data b)
theorem VRs.of {V:Addr→Prop} {h:Heap}:∀ {vs:List Value} {ds:List PyData},RdAll V h vs ds→VRs V h vs (ds.map AV.d)
 | _,_,.nil=>.nil
 | _,_,.cons a b=>.cons a (VRs.of b)
set_option genInjectivity false in
structure Sys where
 prog:Program
 w:World
 h₁:Heap
 mg:Str→Option Value
 mb:Str→Option Value
 R:Addr→Prop
 Wd:(Addr→Prop)→Heap→Sto→Prop
 lo:∀ a,R a→h₁.get? a=none
 g:h₁.Ns mainGlobals mg
 b:h₁.Ns builtinsNs mb
 lim:h₁.NoLimit
 grow:∀ {V X:Addr→Prop} {h h':Heap} {σ:Sto},Wd V h σ→Grow X h h'→(∀ a,X a→V a)→(∀ a,X a→¬R a)→Wd V h' σ
 ex:∀ {V:Addr→Prop} {h:Heap} {σ:Sto},Wd V h σ→∀ a,R a→∃ o,h.get? a=some o
 to:∀ {V V':Addr→Prop} {h:Heap} {σ:Sto},Wd V h σ→(∀ a,V' a→V a∨h.get? a=none)→(∀ a,R a→V' a)→Wd V' h σ
structure Rm (A:Around) (n:Nat):Prop where
 h:A.handled=none
 d:A.depth+n<recursionLimit
 u:A.units+16*n+256<cLine
theorem Rm.le {A:Around} {n m:Nat} (r:Rm A n) (h:m≤n):Rm A m:=⟨r.h,by have:=r.d;walk_at "o",by have:=r.u;walk_at "o"⟩
theorem Rm.deeper {A:Around} {n:Nat} {env:Env} (r:Rm A (n+1)):Rm (A.deeper env) n:=⟨r.h,by have:=r.d;show A.depth+1+n<_;walk_at "o",by have:=r.u;show A.units+3+_+_<_;walk_at "o"⟩
theorem Rm.units {A:Around} {n:Nat} (r:Rm A n):A.units+255<cLine:=by have:=r.u;walk_at "o"
theorem Rm.depth {A:Around} {n:Nat} (r:Rm A n):A.depth<recursionLimit:=by have:=r.d;walk_at "o"
structure Rn (A:Around) (n tk:Nat):Prop extends Rm A n where
 pos:0<tk
theorem Rn.le {A:Around} {n m tk:Nat} (r:Rn A n tk) (h:m≤n):Rn A m tk:=⟨r.toRm.le h,r.pos⟩
theorem Rn.at {A:Around} {n tk tk':Nat} (r:Rn A n tk) (h:0<tk'):Rn A n tk':=⟨r.toRm,h⟩
theorem Rn.deeper {A:Around} {n tk:Nat} {env:Env} (r:Rn A (n+1) tk):Rn (A.deeper env) n tk:=⟨r.toRm.deeper,r.pos⟩
theorem Rn.units {A:Around} {n tk:Nat} (r:Rn A n tk):A.units+255<cLine:=r.toRm.units
theorem Rn.depth {A:Around} {n tk:Nat} (r:Rn A n tk):A.depth<recursionLimit:=r.toRm.depth
variable {S:Sys}
noncomputable def Bs (S:Sys) (h:Heap):Prop:=∀ a o,S.h₁.get? a=some o→h.get? a=some o
noncomputable def VOk (S:Sys) (V:Addr→Prop) (h:Heap):Prop:=(∀ a,S.R a→V a)∧∀ a,V a→S.h₁.get? a=none∧∃ o,h.get? a=some o
theorem Bs.grow {h h':Heap} {V X:Addr→Prop} (b:Bs S h) (vk:VOk S V h) (g:Grow X h h') (xv:∀ a,X a→V a):Bs S h':=fun a o e=>
 g a o (b a o e) fun q=>by rw [(vk.2 a (xv a q)).1] at e;cases e
theorem VOk.grow {h h':Heap} {V X:Addr→Prop} (vk:VOk S V h) (g:Grow X h h') (ex:∀ a,X a→∃ o,h'.get? a=some o):VOk S V h':=
 ⟨vk.1,fun a q=>⟨(vk.2 a q).1,Classical.byCases (fun k:X a=>ex a k) fun k=>let ⟨o,e⟩:=(vk.2 a q).2;⟨o,g a o e k⟩⟩⟩
structure Fn (env:Env) (nm:List (Str × NameKind)):Prop where
 kind:env.scope.kind=.function
 names:env.scope.names=nm
 glob:env.globals=mainGlobals
 blt:env.builtins=builtinsNs
theorem Fn.at {env:Env} {nm:List (Str × NameKind)} (f:Fn env nm) (x:Str):env.kindOf x=nm.lookup x:=by rw [← f.names];rfl
theorem Fn.plain {env:Env} {nm:List (Str × NameKind)} (f:Fn env nm):(env.scope.kind == .class||(env.scope.kind == .module&&env.locals != env.globals))=false:=by rw [f.kind];rfl
noncomputable def VarAt (V:Addr→Prop) (h:Heap) (env:Env) (m:Str→Option Value) (x:Str) (a:AV):Prop:=
 ∃ v,VR V h v a∧((env.kindOf x=some .local∧m x=some v)∨(env.kindOf x=some .cell∧∃ c,env.cells.lookup x=some c∧h.IsCell c (some v)))
structure View (S:Sys) (V:Addr→Prop) (env:Env) (h:Heap) (ρ:List (Str × AV)) (σ:Sto):Prop where
 base:Bs S h
 vok:VOk S V h
 fr:∃ m,h.Ns env.locals m∧∀ p∈ρ,VarAt V h env m p.1 p.2
 cl:∀ x c,env.cells.lookup x=some c→∃ v,h.IsCell c v
 apart:env.cells.Pairwise fun x y=>x.2≠y.2
 own:V env.locals∧¬S.R env.locals
 ownC:∀ x c,env.cells.lookup x=some c→V c∧¬S.R c∧c≠env.locals
 wd:S.Wd V h σ
theorem cell_grow {h h':Heap} {X:Addr→Prop} {c:Addr} {v:Option Value} (q:h.IsCell c v) (g:Grow X h h') (n:¬X c):h'.IsCell c v:=let ⟨o,e,d⟩:=q;⟨o,g c o e n,d⟩
theorem ns_grow {h h':Heap} {X:Addr→Prop} {c:Addr} {m:Str→Option Value} (q:h.Ns c m) (g:Grow X h h') (n:¬X c):h'.Ns c m:=let ⟨o,es,ep,e,r⟩:=q;⟨o,es,ep,g c o e n,r⟩
theorem View.grow {V X:Addr→Prop} {env:Env} {h h':Heap} {ρ:List (Str × AV)} {σ σ':Sto} (q:View S V env h ρ σ) (g:Grow X h h') (ex:∀ a,X a→∃ o,h'.get? a=some o) (xv:∀ a,X a→V a) (xl:¬X env.locals) (xc:∀ x c,env.cells.lookup x=some c→¬X c)
  (wd:S.Wd V h' σ'):View S V env h' ρ σ':=by
 obtain ⟨m,hn,hv⟩:=q.fr
 refine ⟨q.base.grow q.vok g xv,q.vok.grow g ex,⟨m,ns_grow hn g xl,fun p hp=>?_⟩,fun x c e=>?_,q.apart,q.own,q.ownC,wd⟩
 ·obtain ⟨v,r,k⟩:=hv p hp
  refine ⟨v,r.grow g xv,k.imp (fun k=>k) fun ⟨k1,c,k2,k3⟩=>⟨k1,c,k2,cell_grow k3 g (xc _ _ k2)⟩⟩
 obtain ⟨v,k⟩:=q.cl x c e
 exact ⟨v,cell_grow k g (xc _ _ e)⟩
theorem View.world {V:Addr→Prop} {env:Env} {h h':Heap} {ρ:List (Str × AV)} {σ σ':Sto} (q:View S V env h ρ σ) (g:Grow S.R h h') (wd:S.Wd V h' σ'):View S V env h' ρ σ':=
 q.grow g (S.ex wd) q.vok.1 q.own.2 (fun x c e=>(q.ownC x c e).2.1) wd
theorem View.more {V:Addr→Prop} {env:Env} {h h':Heap} {ρ:List (Str × AV)} {σ:Sto} (q:View S V env h ρ σ) (g:Grow (fun _u=>False) h h'):View S V env h' ρ σ:=
 q.grow g (fun _u k=>k.elim) (fun _u k=>k.elim) (fun k=>k) (fun _u _u _u k=>k) (S.grow q.wd g (fun _u k=>k.elim) fun _u k=>k.elim)
theorem VR.more {V:Addr→Prop} {h h':Heap} {v:Value} {a:AV} (r:VR V h v a) (g:Grow (fun _u=>False) h h'):VR V h' v a:=r.grow g fun _u k=>k.elim
theorem Grow.none {X:Addr→Prop} {h h':Heap} (g:Grow (fun _u=>False) h h'):Grow X h h':=g.mono fun _u k=>k.elim
structure Do (S:Sys) {α:Type} (n:Nat) (env:Env) (ρ:List (Str × AV)) (σ:Sto) (t:Sem α) (P:(Addr→Prop)→Heap→α→Prop) (σ':Sto):Prop where
 run:∀ (V:Addr→Prop) (A:Around) (s:Shared) (Q:α→Shared→Prop) (E:Value→Shared→Prop),Rn A n s.toks→View S V env s.heap ρ σ →
  (∀ v h' tk,Grow S.R s.heap h'→View S V env h' ρ σ'→P V h' v→Q v { s with heap:=h',toks:=tk })→wpAny (model S.prog S.w) A t Q E s
noncomputable abbrev Ev (S:Sys) (n:Nat) (env:Env) (ρ:List (Str × AV)) (σ:Sto) (t:Sem Value) (a:AV) (σ':Sto):Prop:=Do S n env ρ σ t (fun V h v=>VR V h v a) σ'
noncomputable abbrev Evs (S:Sys) (n:Nat) (env:Env) (ρ:List (Str × AV)) (σ:Sto) (t:Sem (List Value)) (a:List AV) (σ':Sto):Prop:=Do S n env ρ σ t (fun V h v=>VRs V h v a) σ'
noncomputable abbrev Tr (S:Sys) (n:Nat) (env:Env) (ρ:List (Str × AV)) (σ:Sto) (t:Sem Bool) (b:Bool) (σ':Sto):Prop:=Do S n env ρ σ t (fun _u _u v=>v=b) σ'
noncomputable def VO (S:Sys) (V:Addr→Prop) (h:Heap):Prop:=∀ a,V a→S.h₁.get? a=none∧∃ o,h.get? a=some o
noncomputable def Op (S:Sys) {α:Type} (as:List AV) (f:List Value→Sem α) (P:(Addr→Prop)→Heap→α→Prop):Prop:=
 ∀ (V:Addr→Prop) (A:Around) (s:Shared) (vs:List Value) (Q:α→Shared→Prop) (E:Value→Shared→Prop),Rn A 0 s.toks→Bs S s.heap→VO S V s.heap→VRs V s.heap vs as →
  (∀ v h' tk,Grow (fun _u=>False) s.heap h'→P V h' v→Q v { s with heap:=h',toks:=tk })→wpAny (model S.prog S.w) A (f vs) Q E s
noncomputable def OpW (S:Sys) (σ:Sto) {α:Type} (as:List AV) (f:List Value→Sem α) (P:(Addr→Prop)→Heap→α→Prop):Prop:=
 ∀ (V:Addr→Prop) (A:Around) (s:Shared) (vs:List Value) (Q:α→Shared→Prop) (E:Value→Shared→Prop),Rn A 0 s.toks→Bs S s.heap→VOk S V s.heap→S.Wd V s.heap σ→VRs V s.heap vs as →
  (∀ v h' tk,Grow (fun _u=>False) s.heap h'→P V h' v→Q v { s with heap:=h',toks:=tk })→wpAny (model S.prog S.w) A (f vs) Q E s
theorem op {σ:Sto} {α:Type} {as:List AV} {f:List Value→Sem α} {P:(Addr→Prop)→Heap→α→Prop} (h:Op S as f P):OpW S σ as f P:=fun V A s vs Q E rm bs vk _u r k=>h V A s vs Q E rm bs vk.2 r k
section rules
variable {n:Nat} {env:Env} {ρ:List (Str × AV)} {σ σ₁ σ₂:Sto} {nm:List (Str × NameKind)}
theorem ev_name {x:Str} {pos:Pos} {a:AV} (f:Fn env nm) (hx:(x,a)∈ρ) (hd:(x == ("__debug__" : Str))=false:=by decide):Ev S n env ρ σ (eval (.Name x pos) env) a σ:=by
 constructor;intro V A s Q E rm q h
 obtain ⟨m,hn,hv⟩:=q.fr
 obtain ⟨v,r,k⟩:=hv _ hx
 refine wpAny_Name ?_ hd
 rcases k with ⟨k1,k2⟩ | ⟨k1,c,k2,k3⟩
 exact wpAny_loadName_local f.kind k1 hn k2 (h v s.heap s.toks (Grow.refl _ _) q r);exact wpAny_loadName_cell f.kind k1 k2 k3 (h v s.heap s.toks (Grow.refl _ _) q r)
theorem ev_global {x:Str} {pos:Pos} {v:Value} (f:Fn env nm) (hk:nm.lookup x=some .globalImplicit) (hx:S.mg x=some v) (hd:(x == ("__debug__" : Str))=false:=by decide) :
  Ev S n env ρ σ (eval (.Name x pos) env) (.v v) σ:=by
 constructor;intro V A s Q E rm q h
 refine Name_function_global f.kind ((f.at x).trans hk) (loadGlobal_global (mg:=S.mg) ?_ hx (h v s.heap s.toks (Grow.refl _ _) q rfl)) hd
 rw [f.glob]
 exact S.g.keeps q.base
theorem ev_builtin {x:Str} {pos:Pos} {v:Value} (f:Fn env nm) (hk:nm.lookup x=some .globalImplicit) (hx:S.mg x=none) (hb:S.mb x=some v) (hd:(x == ("__debug__" : Str))=false:=by decide) :
  Ev S n env ρ σ (eval (.Name x pos) env) (.v v) σ:=by
 constructor;intro V A s Q E rm q h
 refine Name_function_global f.kind ((f.at x).trans hk) (loadGlobal_builtin (mg:=S.mg) (mb:=S.mb) ?_ hx ?_ hb (h v s.heap s.toks (Grow.refl _ _) q rfl)) hd
 ·rw [f.glob];exact S.g.keeps q.base
 rw [f.blt];exact S.b.keeps q.base
theorem ev_int {i:Int} {k:Nat} {pos:Pos}:Ev S n env ρ σ (eval (.Constant (.int i) k pos) env) (.d (.int i)) σ:=.mk fun V A s Q E rm q h=>
 wpAny_Constant_int (h _ s.heap _ (Grow.refl _ _) q (.int _ _))
theorem ev_str {x:Str} {k:Nat} {pos:Pos}:Ev S n env ρ σ (eval (.Constant (.str x) k pos) env) (.d (.str x)) σ:=.mk fun V A s Q E rm q h=>
 wpAny_Constant_str (h _ s.heap _ (Grow.refl _ _) q (.str _ _))
theorem do_two {α:Type} {l r:Sem Value} {f:List Value→Sem α} {a b:AV} {P:(Addr→Prop)→Heap→α→Prop} (hl:Ev S n env ρ σ l a σ₁) (hr:Ev S n env ρ σ₁ r b σ₂) (ho:OpW S σ₂ [a,b] f P)
  {V:Addr→Prop} {A:Around} {s:Shared} {Q:α→Shared→Prop} {E:Value→Shared→Prop} (rm:Rn A n s.toks) (q:View S V env s.heap ρ σ)
  (h:∀ v h' tk,Grow S.R s.heap h'→View S V env h' ρ σ₂→P V h' v→Q v { s with heap:=h',toks:=tk }) :
  wpAny (model S.prog S.w) A l (fun v s₁=>wpAny (model S.prog S.w) A r (fun u s₂=>wpAny (model S.prog S.w) A (f [v,u]) Q E s₂) E s₁) E s:=
 wpAny_pos rm.pos (hl.run V A s _ E rm q fun v h1 t1 g1 q1 r1 p1=>wpAny_pos p1 (hr.run V A _ _ E (rm.at p1) q1 fun u h2 t2 g2 q2 r2 p2=>ho V A _ _ Q E ((rm.at p2).le (Nat.zero_le _)) q2.base q2.vok q2.wd (.cons (r1.grow g2 q1.vok.1) (.cons r2 .nil))
  fun x h3 t3 g3 p3=>h x h3 t3 ((g1.trans g2).trans g3.none) (q2.more g3) p3))
noncomputable def op2 (f:Value→Value→Sem α):List Value→Sem α
 | [a,b]=>f a b
 | _=>unsupported ""
noncomputable def op1 (f:Value→Sem α):List Value→Sem α
 | [a]=>f a
 | _=>unsupported ""
noncomputable abbrev Bin (S:Sys) (op:Operator) (a b c:AV):Prop:=Op S [a,b] (op2 (binaryOp op)) fun V h v=>VR V h v c
noncomputable abbrev Cmp (S:Sys) (op:CmpOp) (a b c:AV):Prop:=Op S [a,b] (op2 (compareOp op)) fun V h v=>VR V h v c
theorem ev_binW {l r:Expr} {op:Operator} {pos:Pos} {a b c:AV} (hl:Ev S n env ρ σ (eval l env) a σ₁) (hr:Ev S n env ρ σ₁ (eval r env) b σ₂) (ho:OpW S σ₂ [a,b] (op2 (binaryOp op)) fun V h v=>VR V h v c) :
  Ev S n env ρ σ (eval (.BinOp l op r pos) env) c σ₂:=.mk fun V A s Q E rm q h=>wpAny_BinOp (do_two hl hr ho rm q h)
theorem ev_bin {l r:Expr} {op:Operator} {pos:Pos} {a b c:AV} (hl:Ev S n env ρ σ (eval l env) a σ₁) (hr:Ev S n env ρ σ₁ (eval r env) b σ₂) (ho:Bin S op a b c) :
  Ev S n env ρ σ (eval (.BinOp l op r pos) env) c σ₂:=ev_binW hl hr (Nz.op ho)
theorem ev_cmpW {l r:Expr} {op:CmpOp} {pos:Pos} {a b c:AV} (hl:Ev S n env ρ σ (eval l env) a σ₁) (hr:Ev S n env ρ σ₁ (eval r env) b σ₂) (ho:OpW S σ₂ [a,b] (op2 (compareOp op)) fun V h v=>VR V h v c)
  (hm:behindInMarks op r=false:=by with_unfolding_all rfl):Ev S n env ρ σ (eval (.Compare l [op] [r] pos) env) c σ₂:=.mk fun V A s Q E rm q h=>wpAny_Compare1 (do_two hl hr ho rm q h) hm
theorem ev_cmp {l r:Expr} {op:CmpOp} {pos:Pos} {a b c:AV} (hl:Ev S n env ρ σ (eval l env) a σ₁) (hr:Ev S n env ρ σ₁ (eval r env) b σ₂) (ho:Cmp S op a b c)
  (hm:behindInMarks op r=false:=by with_unfolding_all rfl):Ev S n env ρ σ (eval (.Compare l [op] [r] pos) env) c σ₂:=ev_cmpW hl hr (Nz.op ho) hm
theorem Op.int2 {f:Value→Value→Sem Value} {a b c:Int}
  (h:∀ (A:Around) (s:Shared) (t u:Tok) (Q:Value→Shared→Prop) (E:Value→Shared→Prop),Rm A 0→s.heap.NoLimit→Q (.int c s.toks) { s with toks:=s.toks+1 }→wpAny (model S.prog S.w) A (f (.int a t) (.int b u)) Q E s) :
  Op S [.d (.int a),.d (.int b)] (op2 f) fun V h v=>VR V h v (.d (.int c)):=by
 intro V A s vs Q E rm bs vk r k
 cases r with
 | cons r1 r=>
  cases r with
  | cons r2 r=>
   cases r
   obtain ⟨t1,rfl⟩:=Rd.ofInt r1
   obtain ⟨t2,rfl⟩:=Rd.ofInt r2
   exact h _ _ _ _ _ _ rm.toRm (S.lim.keeps bs) (k _ s.heap _ (Grow.refl _ _) (.int _ _))
theorem Op.int2b {f:Value→Value→Sem Value} {a b:Int} {c:Bool}
  (h:∀ (A:Around) (s:Shared) (t u:Tok) (Q:Value→Shared→Prop) (E:Value→Shared→Prop),Q (.bool c) s→wpAny (model S.prog S.w) A (f (.int a t) (.int b u)) Q E s) :
  Op S [.d (.int a),.d (.int b)] (op2 f) fun V h v=>VR V h v (.d (.bool c)):=by
 intro V A s vs Q E rm bs vk r k
 cases r with
 | cons r1 r=>
  cases r with
  | cons r2 r=>
   cases r
   obtain ⟨t1,rfl⟩:=Rd.ofInt r1
   obtain ⟨t2,rfl⟩:=Rd.ofInt r2
   exact h _ _ _ _ _ _ (k _ s.heap s.toks (Grow.refl _ _) (.bool _))
theorem bin_add {a b:Int}:Bin S .Add (.d (.int a)) (.d (.int b)) (.d (.int (a+b))):=.int2 fun A s t u Q E rm hl h=>PyProof.Rows.add_int h
theorem bin_sub {a b:Int}:Bin S .Sub (.d (.int a)) (.d (.int b)) (.d (.int (a - b))):=.int2 fun A s t u Q E rm hl h=>PyProof.Rows.sub_int h
theorem bin_mul {a b:Int} (hm:IntMulOk a b):Bin S .Mult (.d (.int a)) (.d (.int b)) (.d (.int (a*b))):=.int2 fun A s t u Q E rm hl h=>PySem.P.mul_int h hm
theorem bin_mod {a b:Int} (hb:b≠0):Bin S .Mod (.d (.int a)) (.d (.int b)) (.d (.int (a.fmod b))):=.int2 fun A s t u Q E rm hl h=>PyProof.Rows.mod_int' hb h
theorem bin_div {a b:Int} (hb:b≠0) (hp:Builtin.divisionGoesByPylong a b=false):Bin S .FloorDiv (.d (.int a)) (.d (.int b)) (.d (.int (a.fdiv b))):=.int2 fun A s t u Q E rm hl h=>
 PyProof.Rows.floordiv_int hb h (.inl hp)
theorem bin_pow {a b:Int} (h0:0≤b) (h1:b≤1000000) (h2:a.natAbs<2 ^ 64):Bin S .Pow (.d (.int a)) (.d (.int b)) (.d (.int (a ^ b.toNat))):=.int2 fun A s t u Q E rm hl h=>pow_int_small h0 h1 h2 h
theorem bin_shl {a b:Int} (h0:0≤b) (h1:b≤1000000) (h2:a.natAbs<2 ^ 64):Bin S .LShift (.d (.int a)) (.d (.int b)) (.d (.int (a*2 ^ b.toNat))):=.int2 fun A s t u Q E rm hl h=>lshift_int_small h0 h1 h2 h
theorem bin_shr {a b:Int} (h0:0≤b):Bin S .RShift (.d (.int a)) (.d (.int b)) (.d (.int (a.fdiv (2 ^ b.toNat)))):=.int2 fun A s t u Q E rm hl h=>rshift_int h0 h
theorem bin_and {a b:Int}:Bin S .BitAnd (.d (.int a)) (.d (.int b)) (.d (.int (Builtin.bitAnd a b))):=.int2 fun A s t u Q E rm hl h=>and_int h
theorem bin_or {a b:Int}:Bin S .BitOr (.d (.int a)) (.d (.int b)) (.d (.int (Builtin.bitOr a b))):=.int2 fun A s t u Q E rm hl h=>or_int h
theorem bin_xor {a b:Int}:Bin S .BitXor (.d (.int a)) (.d (.int b)) (.d (.int (Builtin.bitXor a b))):=.int2 fun A s t u Q E rm hl h=>xor_int h
theorem cmp_eq {a b:Int}:Cmp S .Eq (.d (.int a)) (.d (.int b)) (.d (.bool (a == b))):=.int2b fun A s t u Q E h=>PySem.P.eq_int h
theorem cmp_ne {a b:Int}:Cmp S .NotEq (.d (.int a)) (.d (.int b)) (.d (.bool (a != b))):=.int2b fun A s t u Q E h=>PySem.P.ne_int h
theorem cmp_lt {a b:Int}:Cmp S .Lt (.d (.int a)) (.d (.int b)) (.d (.bool (decide (a<b)))):=.int2b fun A s t u Q E h=>PySem.P.lt_int h
theorem cmp_le {a b:Int}:Cmp S .LtE (.d (.int a)) (.d (.int b)) (.d (.bool (decide (a≤b)))):=.int2b fun A s t u Q E h=>PySem.P.le_int h
theorem cmp_gt {a b:Int}:Cmp S .Gt (.d (.int a)) (.d (.int b)) (.d (.bool (decide (a > b)))):=.int2b fun A s t u Q E h=>PySem.P.gt_int h
end rules
end
section
variable {S:Sys}
inductive Out (T:Type)
 | next (ρ:List (Str × AV)) (σ:T)
 | ret (a:AV) (σ:T)
noncomputable def Own (env:Env) (a:Addr):Prop:=a=env.locals∨∃ x,env.cells.lookup x=some a
noncomputable def OutR (S:Sys) (V:Addr→Prop) (env:Env) (h':Heap) (f:Flow):Out Sto→Prop
 | .next ρ σ=>f=.next∧View S V env h' ρ σ
 | .ret a σ=>∃ v,f=.ret v∧VR V h' v a∧S.Wd V h' σ
structure Ex (S:Sys) (n:Nat) (env:Env) (ρ:List (Str × AV)) (σ:Sto) (t:Sem Flow) (o:Out Sto):Prop where
 run:∀ (V:Addr→Prop) (A:Around) (s:Shared) (Q:Flow→Shared→Prop) (E:Value→Shared→Prop),Rn A n s.toks→View S V env s.heap ρ σ →
  (∀ f h' tk,Grow (fun a=>S.R a∨Own env a) s.heap h'→OutR S V env h' f o→Q f { s with heap:=h',toks:=tk })→wpAny (model S.prog S.w) A t Q E s
noncomputable def FS (S:Sys) (n:Nat) (f:Addr) (as:List AV) (σ:Sto) (a:AV) (σ':Sto):Prop:=
 ∀ (V:Addr→Prop) (A:Around) (s:Shared) (vs:List Value) (Q:Value→Shared→Prop) (E:Value→Shared→Prop),Rn A n s.toks→Bs S s.heap→VOk S V s.heap→S.Wd V s.heap σ→VRs V s.heap vs as →
  (∀ v h' tk,Grow S.R s.heap h'→S.Wd V h' σ'→VR V h' v a→Q v { s with heap:=h',toks:=tk })→wpAny (model S.prog S.w) A (call (.ref f) vs) Q E s
theorem Grow.own {env:Env} {h h':Heap} (g:Grow S.R h h'):Grow (fun a=>S.R a∨Own env a) h h':=g.mono fun _u k=>.inl k
section rules
variable {n:Nat} {env:Env} {ρ ρ₁ ρ₂:List (Str × AV)} {σ σ₁ σ₂:Sto} {nm:List (Str × NameKind)} {o:Out Sto}
theorem ex_nil:Ex S n env ρ σ (execs [] env) (.next ρ σ):=.mk fun V A s Q E rm q h=>wpAny_execs_nil (h _ s.heap s.toks (Grow.refl _ _) ⟨rfl,q⟩)
theorem ex_cons {st:Stmt} {rest:List Stmt} (h1:Ex S n env ρ σ (exec st env) (.next ρ₁ σ₁)) (h2:Ex S n env ρ₁ σ₁ (execs rest env) o):Ex S n env ρ σ (execs (st::rest) env) o:=by
 constructor;intro V A s Q E rm q h
 refine wpAny_execs_cons (wpAny_pos rm.pos (h1.run V A s _ E rm q fun f h' tk g r p1=>?_))
 obtain ⟨rfl,q1⟩:=r
 exact h2.run V A _ Q E (rm.at p1) q1 fun f h'' tk' g' r'=>h f h'' tk' (g.trans g') r'
theorem ex_cons_ret {st:Stmt} {rest:List Stmt} {a:AV} (h1:Ex S n env ρ σ (exec st env) (.ret a σ₁)):Ex S n env ρ σ (execs (st::rest) env) (.ret a σ₁):=by
 constructor;intro V A s Q E rm q h
 refine wpAny_execs_cons (h1.run V A s _ E rm q fun f h' tk g r=>?_)
 obtain ⟨v,rfl,r⟩:=r
 exact h _ h' tk g ⟨v,rfl,r⟩
theorem ex_ret {e:Expr} {pos:Pos} {a:AV} (h1:Ev S n env ρ σ (eval e env) a σ₁):Ex S n env ρ σ (exec (.Return (some e) pos) env) (.ret a σ₁):=.mk fun V A s Q E rm q h=>
 wpAny_Return_some (h1.run V A s _ E rm q fun v h' tk g q1 r=>h _ h' tk g.own ⟨v,rfl,r,q1.wd⟩)
theorem ex_expr {e:Expr} {pos:Pos} {a:AV} (h1:Ev S n env ρ σ (eval e env) a σ₁) (hi:interactive env=false) (hs:swapsWith e none pos.line env=pure false:=by rfl):Ex S n env ρ σ (exec (.Expr e pos) env) (.next ρ σ₁):=.mk fun V A s Q E rm q h=>
 wpAny_Expr_any (h1.run V A s _ E rm q fun v h' tk g q1 r=>h _ h' tk g.own ⟨rfl,q1⟩) hi hs
theorem Fn.quiet (f:Fn env nm):interactive env=false:=by unfold interactive;rw [f.kind];rfl
theorem ex_if {test:Expr} {body orelse:List Stmt} {pos:Pos} {b:Bool} (h1:Tr S n env ρ σ (isTrue test env (eval test env)) b σ₁) (ht:b=true→Ex S n env ρ σ₁ (execs body env) o) (hf:b=false→Ex S n env ρ σ₁ (execs orelse env) o) :
  Ex S n env ρ σ (exec (.If test body orelse pos) env) o:=by
 constructor;intro V A s Q E rm q h
 refine wpAny_If (wpAny_pos rm.pos (h1.run V A s _ E rm q fun v h' tk g q1 r p1=>?_))
 have r:v=b:=r
 subst r
 cases v with
 | true=>exact (ht rfl).run V A _ Q E (rm.at p1) q1 fun f h'' tk' g' r'=>h f h'' tk' (g.own.trans g') r'
 | false=>exact (hf rfl).run V A _ Q E (rm.at p1) q1 fun f h'' tk' g' r'=>h f h'' tk' (g.own.trans g') r'
noncomputable def Upd (x:Str) (a:AV) (ρ ρ':List (Str × AV)):Prop:=∀ p∈ρ',p=(x,a)∨(p∈ρ∧p.1≠x)
theorem upd_nil {x:Str} {a:AV}:Upd x a [] [(x,a)]:=fun p hp=>.inl (List.mem_singleton.mp hp)
theorem upd_here {x:Str} {a b:AV} (h:Upd x a ρ ρ):Upd x a ((x,b)::ρ) ((x,a)::ρ):=fun p hp=>by
 rcases List.mem_cons.mp hp with rfl | hp
 exact .inl rfl
 exact (h p hp).imp id fun k=>⟨.tail _ k.1,k.2⟩
theorem upd_off {x:Str} {a:AV} (h:(ρ.all fun p=>p.1 != x)=true):Upd x a ρ ρ:=fun p hp=>.inr ⟨hp,by simpa using List.all_eq_true.mp h p hp⟩
theorem upd_there {x y:Str} {a b:AV} (hy:y≠x) (h:Upd x a ρ ρ₁):Upd x a ((y,b)::ρ) ((y,b)::ρ₁):=fun p hp=>by
 rcases List.mem_cons.mp hp with rfl | hp
 exact .inr ⟨.head _,hy⟩
 exact (h p hp).imp id fun k=>⟨.tail _ k.1,k.2⟩
noncomputable def Binds (env:Env) (x:Str):Prop:=env.kindOf x=some .local∨(env.kindOf x=some .cell∧∃ c,env.cells.lookup x=some c)
theorem bind_step {x:Str} {v:Value} {a:AV} {V:Addr→Prop} {A:Around} {s:Shared} {Q:Unit→Shared→Prop} {E:Value→Shared→Prop} (f:Fn env nm) (hb:Binds env x) (hu:Upd x a ρ ρ₁)
  (q:View S V env s.heap ρ σ) (r:VR V s.heap v a) (h:∀ h' tk,Grow (Own env) s.heap h'→View S V env h' ρ₁ σ→Q () { s with heap:=h',toks:=tk }) :
  wpAny (model S.prog S.w) A (storeName env x v) Q E s:=by
 obtain ⟨m,hn,hv⟩:=q.fr
 have ownV:∀ a,Own env a→V a:=fun a k=>k.elim (fun e=>e▸q.own.1) fun ⟨y,e⟩=>(q.ownC y a e).1
 have ownR:∀ a,Own env a→¬S.R a:=fun a k=>k.elim (fun e=>e▸q.own.2) fun ⟨y,e⟩=>(q.ownC y a e).2.1
 rcases hb with hl | ⟨hl,c,hc⟩
 ·refine wpAny_storeName_local hl hn (fun h' hn' hs'=>?_) f.plain
  have g:Grow (Own env) s.heap h':=Grow.same hs' (.inl rfl)
  have ex:∀ a,Own env a→∃ o,h'.get? a=some o:=fun a k=>k.elim (fun e=>by rw [e];obtain ⟨o,_,_,e,_⟩:=hn';exact ⟨o,e⟩) fun ⟨y,e⟩=>by
   obtain ⟨u,k⟩:=q.cl y a e
   obtain ⟨o,e,_⟩:=k.sameBut hs' (q.ownC _ _ e).2.2
   exact ⟨o,e⟩
  refine h h' _ g ⟨q.base.grow q.vok g ownV,q.vok.grow g ex,⟨_,hn',fun p hp=>?_⟩,fun y d e=>?_,q.apart,q.own,q.ownC,S.grow q.wd g ownV ownR⟩
  ·rcases hu p hp with rfl | ⟨hp',hne⟩
   exact ⟨v,r.grow g ownV,.inl ⟨hl,by simp⟩⟩
   obtain ⟨u,ru,k⟩:=hv p hp'
   refine ⟨u,ru.grow g ownV,k.imp (fun k=>⟨k.1,by simpa [hne] using k.2⟩) fun ⟨k1,d,k2,k3⟩=>⟨k1,d,k2,k3.sameBut hs' (q.ownC _ _ k2).2.2⟩⟩
  obtain ⟨u,k⟩:=q.cl y d e
  exact ⟨u,k.sameBut hs' (q.ownC _ _ e).2.2⟩
 obtain ⟨v0,hc0⟩:=q.cl x c hc
 refine wpAny_storeName_cell f.kind hl hc hc0 fun h' hc' hs'=>?_
 have g:Grow (Own env) s.heap h':=Grow.same hs' (.inr ⟨_,hc⟩)
 have ex:∀ a,Own env a→∃ o,h'.get? a=some o:=fun a k=>k.elim (fun e=>by rw [e];obtain ⟨o,_,_,e,_⟩:=hn.sameBut hs' (Ne.symm (q.ownC _ _ hc).2.2);exact ⟨o,e⟩) fun ⟨y,e⟩=>by
  by_cases hd:a=c
  ·subst hd;obtain ⟨o,e,_⟩:=hc';exact ⟨o,e⟩
  obtain ⟨u,k⟩:=q.cl y a e
  obtain ⟨o,e,_⟩:=k.sameBut hs' hd
  exact ⟨o,e⟩
 refine h h' s.toks g ⟨q.base.grow q.vok g ownV,q.vok.grow g ex,⟨m,hn.sameBut hs' (Ne.symm (q.ownC _ _ hc).2.2),fun p hp=>?_⟩,fun y d e=>?_,q.apart,q.own,q.ownC,S.grow q.wd g ownV ownR⟩
 ·rcases hu p hp with rfl | ⟨hp',hne⟩
  exact ⟨v,r.grow g ownV,.inr ⟨hl,c,hc,hc'⟩⟩
  obtain ⟨u,ru,k⟩:=hv p hp'
  refine ⟨u,ru.grow g ownV,k.imp (fun k=>k) fun ⟨k1,d,k2,k3⟩=>⟨k1,d,k2,k3.sameBut hs' fun e=>?_⟩⟩
  subst e
  exact hne (name_of_addr q.apart (mem_of_lookup k2) (mem_of_lookup hc))
 by_cases hd:d=c
 ·subst hd;exact ⟨_,hc'⟩
 obtain ⟨u,k⟩:=q.cl y d e
 exact ⟨u,k.sameBut hs' hd⟩
theorem ex_assign {x:Str} {e:Expr} {pos' pos:Pos} {a:AV} (f:Fn env nm) (hb:Binds env x) (h1:Ev S n env ρ σ (eval e env) a σ₁) (hu:Upd x a ρ ρ₁) (hs:swapsWith e (some (.Name x pos')) pos.line env=pure false:=by rfl) :
  Ex S n env ρ σ (exec (.Assign [.Name x pos'] e pos) env) (.next ρ₁ σ₁):=.mk fun V A s Q E rm q h=>
 wpAny_Assign_Name (h1.run V A s _ E rm q fun v h' tk g q1 r=>bind_step f hb hu q1 r fun h'' tk' g' q2=>h _ h'' tk' (g.own.trans (g'.mono fun _u k=>.inr k)) ⟨rfl,q2⟩) hs
theorem tr_val {e:Expr} {whole:Sem Value} {b:Bool} (h1:Ev S n env ρ σ whole (.d (.bool b)) σ₁) (he:isTrue e env whole=(do let v ← whole;standAt e.pos;holding [v] (truthy v)):=by rfl):Tr S n env ρ σ (isTrue e env whole) b σ₁:=.mk fun V A s Q E rm q h=>
 wpAny_isTrue_value (h1.run V A s _ E rm q fun v h' tk g q1 r=>by obtain rfl:=Rd.ofBool r;exact wpAny_truthy_bool (h _ h' tk g q1 rfl)) he
theorem tr_not {x:Expr} {pos:Pos} {whole:Sem Value} {b:Bool} (h1:Tr S n env ρ σ (isTrue x env (eval x env)) b σ₁):Tr S n env ρ σ (isTrue (.UnaryOp .Not x pos) env whole) (!b) σ₁:=.mk fun V A s Q E rm q h=>
 wpAny_isTrue_Not (h1.run V A s _ E rm q fun v h' tk g q1 r=>h _ h' tk g q1 (by rw [show v=b from r]))
theorem tr_cmpW {l r:Expr} {op:CmpOp} {pos:Pos} {whole:Sem Value} {a b:AV} {c:Bool} (hl:Ev S n env ρ σ (eval l env) a σ₁) (hr:Ev S n env ρ σ₁ (eval r env) b σ₂) (ho:OpW S σ₂ [a,b] (op2 (compareOp op)) fun V h v=>VR V h v (.d (.bool c)))
  (hm:behindInMarks op r=false:=by with_unfolding_all rfl):Tr S n env ρ σ (isTrue (.Compare l [op] [r] pos) env whole) c σ₂:=by
 constructor;intro V A s Q E rm q h
 refine wpAny_isTrue_Compare1 ?_ hm
 have:=do_two (E:=E) (Q:=fun v s'=>wpAny (model S.prog S.w) A (truthy v) Q E s') hl hr ho rm q fun v h' tk g q1 r=>by
  obtain rfl:=Rd.ofBool r
  exact wpAny_truthy_bool (h _ h' tk g q1 rfl)
 exact this
theorem tr_cmp {l r:Expr} {op:CmpOp} {pos:Pos} {whole:Sem Value} {a b:AV} {c:Bool} (hl:Ev S n env ρ σ (eval l env) a σ₁) (hr:Ev S n env ρ σ₁ (eval r env) b σ₂) (ho:Cmp S op a b (.d (.bool c)))
  (hm:behindInMarks op r=false:=by with_unfolding_all rfl):Tr S n env ρ σ (isTrue (.Compare l [op] [r] pos) env whole) c σ₂:=tr_cmpW hl hr (Nz.op ho) hm
theorem tr_bool {op:BoolOp} {es:List Expr} {pos:Pos} {whole:Sem Value} {b:Bool} (h1:Tr S n env ρ σ (allTrue op es env) b σ₁):Tr S n env ρ σ (isTrue (.BoolOp op es pos) env whole) b σ₁:=.mk fun V A s Q E rm q h=>
 wpAny_isTrue_BoolOp (h1.run V A s Q E rm q h)
theorem tr_and_nil:Tr S n env ρ σ (allTrue .And [] env) true σ:=.mk fun V A s Q E rm q h=>wpAny_allTrue_And_nil (h _ s.heap s.toks (Grow.refl _ _) q rfl)
theorem tr_or_nil:Tr S n env ρ σ (allTrue .Or [] env) false σ:=.mk fun V A s Q E rm q h=>wpAny_allTrue_Or_nil (h _ s.heap s.toks (Grow.refl _ _) q rfl)
theorem tr_and {x:Expr} {rest:List Expr} {b c:Bool} (h1:Tr S n env ρ σ (isTrue x env (eval x env)) b σ₁) (h2:b=true→Tr S n env ρ σ₁ (allTrue .And rest env) c σ₂) (h3:b=false→c=false∧σ₂=σ₁) :
  Tr S n env ρ σ (allTrue .And (x::rest) env) c σ₂:=by
 constructor;intro V A s Q E rm q h
 refine wpAny_allTrue_And_cons (wpAny_pos rm.pos (h1.run V A s _ E rm q fun v h' tk g q1 r p1=>?_))
 have r:v=b:=r
 subst r
 cases v with
 | true=>exact (h2 rfl).run V A _ Q E (rm.at p1) q1 fun v h'' tk' g' q' r'=>h v h'' tk' (g.trans g') q' r'
 | false=>
  obtain ⟨rfl,rfl⟩:=h3 rfl
  exact h _ h' tk g q1 rfl
theorem tr_or {x:Expr} {rest:List Expr} {b c:Bool} (h1:Tr S n env ρ σ (isTrue x env (eval x env)) b σ₁) (h2:b=false→Tr S n env ρ σ₁ (allTrue .Or rest env) c σ₂) (h3:b=true→c=true∧σ₂=σ₁) :
  Tr S n env ρ σ (allTrue .Or (x::rest) env) c σ₂:=by
 constructor;intro V A s Q E rm q h
 refine wpAny_allTrue_Or_cons (wpAny_pos rm.pos (h1.run V A s _ E rm q fun v h' tk g q1 r p1=>?_))
 have r:v=b:=r
 subst r
 cases v with
 | false=>exact (h2 rfl).run V A _ Q E (rm.at p1) q1 fun v h'' tk' g' q' r'=>h v h'' tk' (g.trans g') q' r'
 | true=>
  obtain ⟨rfl,rfl⟩:=h3 rfl
  exact h _ h' tk g q1 rfl
theorem ev_ite {test body orelse:Expr} {pos:Pos} {b:Bool} {a:AV} (h1:Tr S n env ρ σ (isTrue test env (eval test env)) b σ₁) (ht:b=true→Ev S n env ρ σ₁ (eval body env) a σ₂) (hf:b=false→Ev S n env ρ σ₁ (eval orelse env) a σ₂) :
  Ev S n env ρ σ (eval (.IfExp test body orelse pos) env) a σ₂:=by
 constructor;intro V A s Q E rm q h
 refine wpAny_IfExp (wpAny_pos rm.pos (h1.run V A s _ E rm q fun v h' tk g q1 r p1=>?_))
 have r:v=b:=r
 subst r
 cases v with
 | true=>exact (ht rfl).run V A _ Q E (rm.at p1) q1 fun f h'' tk' g' q' r'=>h f h'' tk' (g.trans g') q' r'
 | false=>exact (hf rfl).run V A _ Q E (rm.at p1) q1 fun f h'' tk' g' q' r'=>h f h'' tk' (g.trans g') q' r'
theorem ev_not {x:Expr} {pos:Pos} {b:Bool} (h1:Ev S n env ρ σ (eval x env) (.d (.bool b)) σ₁):Ev S n env ρ σ (eval (.UnaryOp .Not x pos) env) (.d (.bool (!b))) σ₁:=.mk fun V A s Q E rm q h=>
 wpAny_UnaryOp (h1.run V A s _ E rm q fun v h' tk g q1 r=>by
  obtain rfl:=Rd.ofBool r
  show wpAny _ A (do return .bool !(← truthy (.bool b))) Q E _
  exact wpAny_bind (wpAny_truthy_bool (wpAny_pure (h _ h' tk g q1 (.bool _)))))
theorem ev_and2 {x y:Expr} {pos:Pos} {b:Bool} {a:AV} (h1:Ev S n env ρ σ (eval x env) (.d (.bool b)) σ₁) (ht:b=true→Ev S n env ρ σ₁ (eval y env) a σ₂) (hf:b=false→a=.d (.bool false)∧σ₂=σ₁) :
  Ev S n env ρ σ (eval (.BoolOp .And [x,y] pos) env) a σ₂:=by
 constructor;intro V A s Q E rm q h
 refine wpAny_And2 (wpAny_pos rm.pos (h1.run V A s _ E rm q fun v h' tk g q1 r p1=>?_))
 obtain rfl:=Rd.ofBool r
 refine wpAny_truthy_bool ?_
 cases b with
 | true=>exact (ht rfl).run V A _ Q E (rm.at p1) q1 fun f h'' tk' g' q' r'=>h f h'' tk' (g.trans g') q' r'
 | false=>
  obtain ⟨rfl,rfl⟩:=hf rfl
  exact h _ h' tk g q1 (.bool _)
theorem ev_or2 {x y:Expr} {pos:Pos} {b:Bool} {a:AV} (h1:Ev S n env ρ σ (eval x env) (.d (.bool b)) σ₁) (ht:b=false→Ev S n env ρ σ₁ (eval y env) a σ₂) (hf:b=true→a=.d (.bool true)∧σ₂=σ₁) :
  Ev S n env ρ σ (eval (.BoolOp .Or [x,y] pos) env) a σ₂:=by
 constructor;intro V A s Q E rm q h
 refine wpAny_Or2 (wpAny_pos rm.pos (h1.run V A s _ E rm q fun v h' tk g q1 r p1=>?_))
 obtain rfl:=Rd.ofBool r
 refine wpAny_truthy_bool ?_
 cases b with
 | false=>exact (ht rfl).run V A _ Q E (rm.at p1) q1 fun f h'' tk' g' q' r'=>h f h'' tk' (g.trans g') q' r'
 | true=>
  obtain ⟨rfl,rfl⟩:=hf rfl
  exact h _ h' tk g q1 (.bool _)
theorem evs_nil {pos:Pos}:Evs S n env ρ σ (spliced (backTo pos (starEach [] env))) [] σ:=.mk fun V A s Q E rm q h=>spliced_nil (h _ s.heap s.toks (Grow.refl _ _) q .nil)
theorem evs_cons {e:Expr} {rest:List Expr} {pos:Pos} {a:AV} {as:List AV} (h1:Ev S n env ρ σ (eval e env) a σ₁) (h2:Evs S n env ρ σ₁ (spliced (backTo pos (starEach rest env))) as σ₂)
  (he:starEach (e::rest) env=(false,eval e env)::starEach rest env:=by rfl):Evs S n env ρ σ (spliced (backTo pos (starEach (e::rest) env))) (a::as) σ₂:=.mk fun V A s Q E rm q h=>
 wpAny_items_cons (wpAny_pos rm.pos (h1.run V A s _ E rm q fun v h' tk g q1 r p1=>h2.run V A _ _ E (rm.at p1) q1 fun vs h'' tk' g' q' r'=>h _ h'' tk' (g.trans g') q' (.cons (r.grow g' q1.vok.1) r'))) he
theorem fresh_off {V:Addr→Prop} {h:Heap} (vk:VO S V h):¬V h.objs.size:=fun k=>by obtain ⟨o,e⟩:=(vk _ k).2;exact Nat.lt_irrefl _ (Heap.lt_size e)
theorem rd_new_list {V:Addr→Prop} {h:Heap} {vs:List Value} {ds:List PyData} (vk:VOk S V h) (r:RdAll V h vs ds):Rd V (h.push { cls:=.type "list",data:=.seq vs.toArray }) (.ref h.objs.size) (.list ds):=
 .list (fresh_off vk.2) (Heap.get?_push_size _ rfl) ⟨rfl,rfl,rfl⟩ rfl (RdAll.grow (Grow.push (X:=fun _u=>False) _ _) (fun _u k=>k.elim) (by simpa using r))
theorem rd_new_tuple {V:Addr→Prop} {h:Heap} {vs:List Value} {ds:List PyData} (vk:VOk S V h) (r:RdAll V h vs ds):Rd V (h.push { cls:=.type "tuple",data:=.seq vs.toArray }) (.ref h.objs.size) (.tuple ds):=
 .tuple (fresh_off vk.2) (Heap.get?_push_size _ rfl) ⟨rfl,rfl,rfl⟩ rfl (RdAll.grow (Grow.push (X:=fun _u=>False) _ _) (fun _u k=>k.elim) (by simpa using r))
theorem VRs.length {V:Addr→Prop} {h:Heap} {vs:List Value} {as:List AV} (r:VRs V h vs as):vs.length=as.length:=by
 induction r with
 | nil=>rfl
 | cons _ _ ih=>rw [List.length_cons,List.length_cons,ih]
noncomputable def EvD (S:Sys) (n:Nat) (env:Env) (ρ:List (Str × AV)) (σ:Sto) (es:List Expr) (pos:Pos) (ds:List PyData) (σ':Sto):Prop:=
 Evs S n env ρ σ (spliced (backTo pos (starEach es env))) (ds.map AV.d) σ'∧ds.length=es.length
theorem evd_nil {pos:Pos}:EvD S n env ρ σ [] pos [] σ:=⟨evs_nil,rfl⟩
theorem evd_cons {e:Expr} {rest:List Expr} {pos:Pos} {d:PyData} {ds:List PyData} (h1:Ev S n env ρ σ (eval e env) (.d d) σ₁) (h2:EvD S n env ρ σ₁ rest pos ds σ₂)
  (he:starEach (e::rest) env=(false,eval e env)::starEach rest env:=by rfl):EvD S n env ρ σ (e::rest) pos (d::ds) σ₂:=⟨evs_cons h1 h2.1 he,by rw [List.length_cons,List.length_cons,h2.2]⟩
theorem ev_tuple {es:List Expr} {k:Nat} {pos:Pos} {ds:List PyData} (h1:EvD S n env ρ σ es pos ds σ₁) (hz:Nat.ble es.length 1000=true:=by rfl) :
  Ev S n env ρ σ (eval (.Tuple es k pos) env) (.d (.tuple ds)) σ₁:=.mk fun V A s Q E rm q h=>
 wpAny_Tuple (h1.1.run V A s _ E rm q fun vs h' tk g q1 r=>⟨by rw [r.length,List.length_map,h1.2];exact Nat.le_trans (Nat.le_of_ble_eq_true hz) (by decide),h _ _ tk (g.trans (Grow.push _ _)) (q1.more (Grow.push _ _)) (rd_new_tuple q1.vok r.data)⟩)
theorem ev_list {es:List Expr} {pos:Pos} {ds:List PyData} (h1:EvD S n env ρ σ es pos ds σ₁) (hz:Nat.ble es.length 1000=true:=by rfl) :
  Ev S n env ρ σ (eval (.List es pos) env) (.d (.list ds)) σ₁:=.mk fun V A s Q E rm q h=>
 wpAny_List (h1.1.run V A s _ E rm q fun vs h' tk g q1 r=>⟨by rw [r.length,List.length_map,h1.2];exact Nat.le_trans (Nat.le_of_ble_eq_true hz) (by decide),h _ _ tk (g.trans (Grow.push _ _)) (q1.more (Grow.push _ _)) (rd_new_list q1.vok r.data)⟩)
theorem evalArgs_any {M:Model} {A:Around} {E:Value→Shared→Prop} {s:Shared} {f:Value} {pos:Pos} {es:List Expr} {Q:Args→Shared→Prop}
  (h:wpAny M A (spliced (backTo pos (starEach es env))) (fun vs s'=>Q ⟨vs,[]⟩ s') E s) (hs:(starEach es env).all (fun p=>!p.1)=true):wpAny M A (evalArgs f true (backTo pos (starEach es env)) []) Q E s:=by
 cases hb:backTo pos (starEach es env) with
 | nil=>
  rw [hb] at h
  unfold evalArgs
  show wpAny M A (spliced [] >>= _) Q E s
  refine wpAny_bind (wpAny_mono h (fun vs s₁ h₁=>?_) fun _u _u x=>x)
  refine wpAny_bind (wpAny_pure ?_)
  refine wpAny_holding ?_
  exact wpAny_bind (wpAny_evalAll_nil (wpAny_bind (wpAny_pure (wpAny_pure h₁))))
 | cons x rest=>
  rw [hb] at h
  obtain ⟨b,t⟩:=x
  have:b=false:=by
   cases he:starEach es env with
   | nil=>rw [he] at hb;cases hb
   | cons y r=>
    rw [he] at hb hs
    simp only [backTo,List.map_cons,List.cons.injEq,Prod.mk.injEq] at hb
    simp only [List.all_cons,Bool.and_eq_true,Bool.not_eq_true'] at hs
    rw [← hb.1.1];exact hs.1
  subst this
  exact evalArgs_plain h
theorem ev_call {id:Str} {p pos:Pos} {es:List Expr} {f:Addr} {of:Obj} {fd:FuncData} {as:List AV} {a:AV} {m:Nat} (hf:Ev S n env ρ σ (eval (.Name id p) env) (.v (.ref f)) σ)
  (h1:Evs S n env ρ σ (spliced (backTo pos (starEach es env))) as σ₁) (h2:FS S m f as σ₁ a σ₂) (hm:m≤n) (ho:S.h₁.get? f=some of) (hd:of.data=.func fd) (hs:(starEach es env).all (fun p=>!p.1)=true:=by rfl) :
  Ev S n env ρ σ (eval (.Call (.Name id p) es [] pos) env) a σ₂:=by
 constructor;intro V A s Q E rm q h
 refine wpAny_Call_Name_kw (wpAny_pos rm.pos (hf.run V A s _ E rm q fun v h' tk g q1 r p1=>?_))
 cases r
 refine callWith_function (fd:=fd) (evalArgs_any (wpAny_pos p1 (h1.run V A _ _ E (rm.at p1) q1 fun vs h'' tk' g' q2 r2 p2=>⟨⟨q2.base _ _ ho,hd⟩,?_⟩)) hs)
 exact h2 V A _ vs Q E ((rm.at p2).le hm) q2.base q2.vok q2.wd r2 fun v h3 tk3 g3 w3 r3=>h v h3 tk3 ((g.trans g').trans g3) (q2.world g3 w3) r3
end rules
end
section
variable {S:Sys}
theorem bindL_out (k:Str→Option NameKind) {x:Str}:∀ (bs:List (Str × Value)) (m:Str→Option Value),x∉bs.map (·.1)→bindL k bs m x=m x
 | [],_,_=>rfl
 | (y,v)::r,m,h=>by
  rw [List.map_cons,List.mem_cons,not_or] at h
  unfold bindL
  rw [bindL_out k r _ h.2]
  split
  exact if_neg h.1;rfl
theorem bindC_out (k:Str→Option NameKind) {x:Str}:∀ (bs:List (Str × Value)) (m:Str→Option Value),x∉bs.map (·.1)→bindC k bs m x=m x
 | [],_,_=>rfl
 | (y,v)::r,m,h=>by
  rw [List.map_cons,List.mem_cons,not_or] at h
  unfold bindC
  rw [bindC_out k r _ h.2]
  split
  rfl;exact if_neg h.1
theorem bindL_in (k:Str→Option NameKind) {x:Str} {v:Value} (hk:k x=some .local):∀ (bs:List (Str × Value)) (m:Str→Option Value),(bs.map (·.1)).Nodup→(x,v)∈bs→bindL k bs m x=some v
 | (y,u)::r,m,hn,hm=>by
  rw [List.map_cons,List.nodup_cons] at hn
  unfold bindL
  rcases List.mem_cons.mp hm with e | hm
  ·cases e
   rw [bindL_out k r _ hn.1,if_pos hk,if_pos rfl]
  exact bindL_in k hk r _ hn.2 hm
theorem bindC_in (k:Str→Option NameKind) {x:Str} {v:Value} (hk:¬k x=some .local):∀ (bs:List (Str × Value)) (m:Str→Option Value),(bs.map (·.1)).Nodup→(x,v)∈bs→bindC k bs m x=some v
 | (y,u)::r,m,hn,hm=>by
  rw [List.map_cons,List.nodup_cons] at hn
  unfold bindC
  rcases List.mem_cons.mp hm with e | hm
  ·cases e
   rw [bindC_out k r _ hn.1,if_neg hk,if_pos rfl]
  exact bindC_in k hk r _ hn.2 hm
theorem cellsFrom_grow {x:Str}:∀ (names:List (Str × NameKind)) (n:Nat) (acc:List (Str × Addr)),(acc.lookup x).isSome=true→((cellsFrom n names acc).lookup x).isSome=true
 | [],_,_,h=>h
 | (y,k)::r,n,acc,h=>by
  unfold cellsFrom
  split
  ·refine cellsFrom_grow r _ _ ?_
   rw [List.lookup_cons]
   split
   rfl;exact h
  exact cellsFrom_grow r _ _ h
theorem cellsFrom_in {x:Str}:∀ (names:List (Str × NameKind)) (n:Nat) (acc:List (Str × Addr)),(x,NameKind.cell)∈names→((cellsFrom n names acc).lookup x).isSome=true
 | (y,k)::r,n,acc,h=>by
  unfold cellsFrom
  rcases List.mem_cons.mp h with e | h
  ·cases e
   refine cellsFrom_grow r _ _ ?_
   rw [List.lookup_cons,beq_self_eq_true];rfl
  split <;> exact cellsFrom_in r _ _ h
structure Fn' (env:Env) (nm:List (Str × NameKind)):Prop extends Fn env nm where
 cells:∀ x,nm.lookup x=some .cell→∃ c,env.cells.lookup x=some c
theorem Fn'.binds {env:Env} {nm:List (Str × NameKind)} (f:Fn' env nm) {x:Str} (h:nm.lookup x=some .local∨nm.lookup x=some .cell):Binds env x:=
 h.imp (fun k=>(f.at x).trans k) fun k=>⟨(f.at x).trans k,f.cells x k⟩
theorem zip_mem_fst {α β:Type}:∀ {xs:List α} {ys:List β} {p:α × β},p∈xs.zip ys→p.1∈xs
 | x::xs,y::ys,p,h=>by
  rw [List.zip_cons_cons] at h
  rcases List.mem_cons.mp h with rfl | h
  exact .head _;exact .tail _ (zip_mem_fst h)
theorem zip_fst {α β:Type}:∀ {xs:List α} {ys:List β},xs.length=ys.length→(xs.zip ys).map (·.1)=xs
 | [],[],_=>rfl
 | x::xs,y::ys,h=>by rw [List.zip_cons_cons,List.map_cons,zip_fst (by simpa using h)]
theorem zip_two {V:Addr→Prop} {h:Heap} {p:Str × AV}:∀ {names:List Str} {vs:List Value} {as:List AV},VRs V h vs as→p∈names.zip as→∃ v,(p.1,v)∈names.zip vs∧VR V h v p.2
 | x::names,_,_,.cons a b,hp=>by
  rw [List.zip_cons_cons] at hp ⊢
  rcases List.mem_cons.mp hp with rfl | hp
  exact ⟨_,.head _,a⟩
  obtain ⟨v,k,r⟩:=zip_two b hp
  exact ⟨v,.tail _ k,r⟩
theorem call_cells_pos {prog:Program} {w:World} {A:Around} {s:Shared} {R:Result→Shared→Prop} {a:Addr} {o:Obj} {fd:FuncData} {body:List Stmt} {vals:List Value} {binds:List (Str × Value)} (hp:0<s.toks)
  (hroom:A.depth<recursionLimit) (ho:s.heap.get? a=some o) (hdata:o.data=.func fd) (hlim:s.heap.NoLimit) (hcd:s.heap.CodeRec fd.code fd.qualname)
  (hbody:fd.body=.stmts body) (hbind:bindArgs fd ⟨vals,[]⟩=pure binds) (hclo:fd.closure=[])
  (hkind:∀ x∈binds,fd.scope.names.lookup x.1=some .local∨(fd.scope.names.lookup x.1=some .cell∧((cellsFrom (s.heap.objs.size+1) fd.scope.names []).lookup x.1).isSome=true))
  (h:∀ s₁,0<s₁.toks→InCallC s (callEnvC fd s.heap.objs.size a).locals (bindL (callEnvC fd s.heap.objs.size a).kindOf binds fun _u=>none) (callEnvC fd s.heap.objs.size a).cells
    (bindC (callEnvC fd s.heap.objs.size a).kindOf binds fun _u=>none) s₁ →
   wpAny (model prog w) (A.deeper (callEnvC fd s.heap.objs.size a)) (execs body (callEnvC fd s.heap.objs.size a)) (fun f s'=>R (.ok (.ret (match f with | .ret v=>v | _=>.none))) s')
    (fun e s'=>wpAny (model prog w) (A.deeper (callEnvC fd s.heap.objs.size a)) (leaving (callEnvC fd s.heap.objs.size a) e) (fun _u s''=>R (.error e) s'') (fun e' s''=>R (.error e') s'') s') s₁)
  (hco:fd.scope.isCoroutine=false) (hgen:fd.scope.isGenerator=false) (hk:fd.scope.kind=.function):codeAny (model prog w) A (.call (.ref a) ⟨vals,[]⟩) R s:=by
 refine codeAny_call_function hroom ho hdata hco hgen hbody hcd ?_
 rw [hbind,hclo]
 refine wpAny_pure (wpAny_pos hp (wpAny_newFunctionEnv_cells hk hkind fun env he s' x p=>?_))
 subst he
 exact ⟨hlim.keeps x.toInCall.keep,codeAny_func (h s' p x)⟩
theorem fs_def {n:Nat} {f:Addr} {of:Obj} {fd:FuncData} {body:List Stmt} {names:List Str} {as:List AV} {σ σ₁:Sto} {a:AV} {nm:List (Str × NameKind)} {K:Frag} (hK:K.In S.h₁)
  (h:∀ env,Fn' env nm→Ex S n env (names.zip as) σ (execs body env) (.ret a σ₁))
  (hl:K.lookup f=some of:=by k_is) (hd:of.data=.func fd:=by exact rfl) (hcd:codeIn K fd.code fd.qualname=true:=by k_is) (hbody:fd.body=.stmts body:=by exact rfl) (hclo:fd.closure=[]:=by exact rfl) (hg:fd.globals=mainGlobals:=by exact rfl) (hb:fd.builtins=builtinsNs:=by exact rfl) (hnm:fd.scope.names=nm:=by dsimp only) (hlen:names.length=as.length:=by exact rfl) (hbind:∀ vs:List Value,vs.length=names.length→bindArgs fd ⟨vs,[]⟩=pure (names.zip vs):=by walk_at "nz bind") (hnd:names.Nodup:=by decide) (hkinds:(names.all fun x=>decide (nm.lookup x=some .local)||(decide (nm.lookup x=some .cell)&&decide ((x,NameKind.cell)∈nm)))=true:=by rfl) (hco:fd.scope.isCoroutine=false:=by exact rfl) (hgen:fd.scope.isGenerator=false:=by exact rfl) (hk:fd.scope.kind=.function:=by exact rfl):FS S (n+1) f as σ a σ₁:=by
 have ho:=hK _ _ hl
 have hcd:=codeRec_of hK hcd
 have hcells:∀ x,nm.lookup x=some .cell→(x,NameKind.cell)∈nm:=fun x hx=>mem_of_lookup hx
 intro V A s vs Q E rm bs vk wd r hq
 have hlv:vs.length=names.length:=by rw [r.length,hlen]
 have kinds:∀ x∈names.zip vs,fd.scope.names.lookup x.1=some .local∨(fd.scope.names.lookup x.1=some .cell∧((cellsFrom (s.heap.objs.size+1) fd.scope.names []).lookup x.1).isSome=true):=fun x hx=>by
  rw [hnm]
  have:=List.all_eq_true.mp hkinds x.1 (zip_mem_fst hx)
  rw [Bool.or_eq_true,Bool.and_eq_true,decide_eq_true_eq,decide_eq_true_eq,decide_eq_true_eq] at this
  exact this.imp id fun k=>⟨k.1,cellsFrom_in _ _ _ k.2⟩
 refine wpAny_call (call_cells_pos rm.pos rm.depth (bs _ _ ho) hd (S.lim.keeps bs) (hcd.keeps bs) hbody (hbind vs hlv) hclo kinds (fun s₁ p₁ x=>?_) hco hgen hk)
 generalize henv:callEnvC fd s.heap.objs.size f=env at x ⊢
 have f':Fn' env nm:=by
  subst henv
  exact ⟨⟨hk,hnm,hg,hb⟩,fun y hy=>Option.isSome_iff_exists.mp (by
   show ((cellsFrom (s.heap.objs.size+1) fd.scope.names []).lookup y).isSome=true
   rw [hnm];exact cellsFrom_in _ _ _ (hcells y hy))⟩
 have hL:env.locals=s.heap.objs.size:=by subst henv;rfl
 obtain ⟨h₁,tk₁,rfl⟩:=x.toInCall.same
 have keep:∀ b o,s.heap.get? b=some o→h₁.get? b=some o:=x.toInCall.keep
 have hns:=x.toInCall.ns
 have g0:Grow (fun _u=>False) s.heap h₁:=.of keep
 have ownLo:∀ a,Own env a→s.heap.get? a=none:=fun a k=>none_size _ (k.elim (fun e=>by rw [e,hL];exact Nat.le_refl _) fun ⟨y,e⟩=>by
  have:=x.above y a (mem_of_lookup e)
  rw [hL] at this
  exact Nat.le_of_lt this)
 have ownHi:∀ a,Own env a→∃ o,h₁.get? a=some o:=fun a k=>k.elim (fun e=>by rw [e];obtain ⟨o,_,_,e,_⟩:=hns;exact ⟨o,e⟩) fun ⟨y,e⟩=>let ⟨o,e,_⟩:=x.cell y a e;⟨o,e⟩
 have ownBase:∀ a,Own env a→S.h₁.get? a=none:=fun a k=>by
  cases e:S.h₁.get? a with
  | none=>rfl
  | some o=>have:=bs a o e;rw [ownLo a k] at this;cases this
 have g0R:Grow S.R s.heap h₁:=g0.mono fun _u k=>k.elim
 have to:∀ a,(V a∨Own env a)→V a∨s.heap.get? a=none:=fun a k=>k.imp id (ownLo a)
 have wd':S.Wd (fun a=>V a∨Own env a) h₁ σ:=S.grow (S.to wd to fun a k=>.inl (vk.1 a k)) g0 (fun _u k=>k.elim) fun _u k=>k.elim
 have ownR:∀ a,Own env a→¬S.R a:=fun a k q=>by
  obtain ⟨o,e⟩:=(vk.2 a (vk.1 a q)).2
  rw [ownLo a k] at e;cases e
 have q:View S (fun a=>V a∨Own env a) env h₁ (names.zip as) σ:=by
  refine ⟨fun a o e=>keep a o (bs a o e),⟨fun a k=>.inl (vk.1 a k),fun a k=>?_⟩,⟨_,hns,fun p hp=>?_⟩,fun y c e=>⟨_,x.cell y c e⟩,x.apart,⟨.inr (.inl rfl),ownR _ (.inl rfl)⟩,fun y c e=>⟨.inr (.inr ⟨y,e⟩),ownR _ (.inr ⟨y,e⟩),?_⟩,wd'⟩
  ·rcases k with k | k
   exact ⟨(vk.2 a k).1,let ⟨o,e⟩:=(vk.2 a k).2;⟨o,keep a o e⟩⟩;exact ⟨ownBase a k,ownHi a k⟩
  ·obtain ⟨v,hm,rv⟩:=zip_two r hp
   have hfst:((names.zip vs).map (·.1)).Nodup:=by rw [zip_fst hlv.symm];exact hnd
   refine ⟨v,(rv.to to).grow g0 (fun _u k=>k.elim),?_⟩
   rcases kinds _ hm with hl | ⟨hl,hs⟩
   ·have hk':env.kindOf p.1=some .local:=by rw [f'.at,← hnm];exact hl
    exact .inl ⟨hk',bindL_in _ hk' _ _ hfst hm⟩
   have hk':env.kindOf p.1=some .cell:=by rw [f'.at,← hnm];exact hl
   obtain ⟨c,hc⟩:=f'.cells p.1 (by rw [← hnm];exact hl)
   refine .inr ⟨hk',c,hc,?_⟩
   have:=x.cell _ c hc
   rwa [bindC_in _ (by rw [hk'];decide) _ _ hfst hm] at this
  exact Nat.ne_of_gt (x.above y c (mem_of_lookup e))
 refine (h env f').run (fun a=>V a∨Own env a) (A.deeper env) _ _ _ (rm.deeper.at p₁) q fun fl h' tk g r'=>?_
 obtain ⟨v,rfl,rv,w'⟩:=r'
 have g1:Grow S.R s.heap h':=(g0R.mono fun a k=>.inl k).trans g |>.drop fun a k=>k.imp id (ownLo a)
 exact hq v h' tk g1 (S.to w' (fun a k=>.inl (.inl k)) vk.1) (rv.to fun a k=>.inl (.inl k))
end
section
variable {S:Sys}
theorem Rd.isList {V:Addr→Prop} {h:Heap} {v:Value} {xs:List PyData} (r:Rd V h v (.list xs)):∃ a vs,v=.ref a∧¬V a∧h.IsList a vs∧RdAll V h vs.toList xs:=by
 cases r with
 | list n e c d r=>exact ⟨_,_,rfl,n,⟨_,e,c.1,_,d⟩,r⟩
theorem Rd.isTuple {V:Addr→Prop} {h:Heap} {v:Value} {xs:List PyData} (r:Rd V h v (.tuple xs)):∃ a vs,v=.ref a∧¬V a∧IsTup h a vs∧RdAll V h vs.toList xs:=by
 cases r with
 | tuple n e c d r=>exact ⟨_,_,rfl,n,⟨_,e,c.1,_,d⟩,r⟩
theorem RdAll.size {V:Addr→Prop} {h:Heap} {vs:Array Value} {xs:List PyData} (r:RdAll V h vs.toList xs):vs.size=xs.length:=by rw [← r.length,Array.length_toList]
theorem RdAll.at {V:Addr→Prop} {h:Heap} {vs:Array Value} {xs:List PyData} (r:RdAll V h vs.toList xs) {i:Nat} {x:PyData} (e:xs[i]?=some x):∃ y,vs[i]?=some y∧Rd V h y x:=by
 obtain ⟨y,e',r'⟩:=r.get e
 exact ⟨y,by simpa using e',r'⟩
theorem VRs.one {V:Addr→Prop} {h:Heap} {vs:List Value} {a:AV} (r:VRs V h vs [a]):∃ v,vs=[v]∧VR V h v a:=by
 cases r with
 | cons r k=>cases k;exact ⟨_,rfl,r⟩
theorem VRs.two {V:Addr→Prop} {h:Heap} {vs:List Value} {a b:AV} (r:VRs V h vs [a,b]):∃ v u,vs=[v,u]∧VR V h v a∧VR V h u b:=by
 cases r with
 | cons r k=>
  obtain ⟨u,rfl,r'⟩:=k.one
  exact ⟨_,_,rfl,r,r'⟩
section rules
variable {n:Nat} {env:Env} {ρ ρ₁ ρ₂:List (Str × AV)} {σ σ₁ σ₂:Sto} {nm:List (Str × NameKind)}
noncomputable abbrev Sub (S:Sys) (value slice:Expr) (a i c:AV):Prop:=Op S [a,i] (op2 (subscriptTail value slice)) fun V h v=>VR V h v c
theorem ev_subW {value slice:Expr} {pos:Pos} {a i c:AV} (hl:Ev S n env ρ σ (eval value env) a σ₁) (hr:Ev S n env ρ σ₁ (eval slice env) i σ₂) (ho:OpW S σ₂ [a,i] (op2 (subscriptTail value slice)) fun V h v=>VR V h v c) :
  Ev S n env ρ σ (eval (.Subscript value slice pos) env) c σ₂:=.mk fun V A s Q E rm q h=>Subscript_ (do_two hl hr ho rm q h)
theorem ev_sub {value slice:Expr} {pos:Pos} {a i c:AV} (hl:Ev S n env ρ σ (eval value env) a σ₁) (hr:Ev S n env ρ σ₁ (eval slice env) i σ₂) (ho:Sub S value slice a i c) :
  Ev S n env ρ σ (eval (.Subscript value slice pos) env) c σ₂:=ev_subW hl hr (op ho)
noncomputable def placeOf (k:Int) (n:Nat):Nat:=if k<0 then (k+n).toNat else k.toNat
theorem sub_list {value slice:Expr} {xs:List PyData} {k:Int} {x:PyData} (h1:-(xs.length:Int)≤k) (h2:-(2 ^ 63)≤k) (h3:k<2 ^ 63) (hx:xs[placeOf k xs.length]?=some x)
  (hs:∀ o i,subscripted slice false o i=operate [o,i] (getItem o i):=by intro _ _;with_unfolding_all rfl):Sub S value slice (.d (.list xs)) (.d (.int k)) (.d x):=by
 intro V A s vs Q E rm bs vk r h
 obtain ⟨v,u,rfl,r1,r2⟩:=r.two
 obtain ⟨a,its,rfl,nv,hl,ra⟩:=Rd.isList r1
 obtain ⟨t2,rfl⟩:=Rd.ofInt r2
 obtain ⟨y,hy,ry⟩:=ra.at hx
 have fin:=h y s.heap s.toks (Grow.refl _ _) ry
 rw [← ra.size] at hy h1
 refine tail_any hl.typeIs slot_list_getitem.lookup ?_ (hs _ _)
 unfold placeOf at hy
 split at hy
 exact wpAny_getItem_list_neg hl (by assumption) h1 h2 hy fin;exact wpAny_getItem_list hl (by walk_at "o") h3 hy fin
theorem sub_tuple {value slice:Expr} {xs:List PyData} {k:Int} {x:PyData} (h1:-(xs.length:Int)≤k) (h2:-(2 ^ 63)≤k) (h3:k<2 ^ 63) (hx:xs[placeOf k xs.length]?=some x)
  (hs:∀ o i,subscripted slice false o i=operate [o,i] (getItem o i):=by intro _ _;with_unfolding_all rfl):Sub S value slice (.d (.tuple xs)) (.d (.int k)) (.d x):=by
 intro V A s vs Q E rm bs vk r h
 obtain ⟨v,u,rfl,r1,r2⟩:=r.two
 obtain ⟨a,its,rfl,nv,ht,ra⟩:=Rd.isTuple r1
 obtain ⟨t2,rfl⟩:=Rd.ofInt r2
 obtain ⟨y,hy,ry⟩:=ra.at hx
 have fin:=h y s.heap s.toks (Grow.refl _ _) ry
 have hlt:placeOf k xs.length<xs.length:=by
  rcases Nat.lt_or_ge (placeOf k xs.length) xs.length with q | q
  exact q
  rw [List.getElem?_eq_none q] at hx;cases hx
 refine tail_any ht.typeIs slot_tuple_getitem.lookup (PyProof.Rows.getItem_tuple (j:=placeOf k xs.length) ht h2 h3 ?_ hy fin) (hs _ _)
 rw [ra.size]
 unfold placeOf seqIndex? at *
 split at hlt <;> (simp only [*];(try simp);(repeat' split) <;> (try walk_at "o")) <;> simp_all <;> walk_at "o"
noncomputable abbrev Part (S:Sys) (n:Nat) (env:Env) (ρ:List (Str × AV)) (σ:Sto) (e:Option Expr) (k:Option Int) (σ':Sto):Prop:=Do S n env ρ σ (evalPart e env) (fun _u _u v=>IsPart v k) σ'
theorem part_none:Part S n env ρ σ none none σ:=.mk fun V A s Q E rm q h=>wpAny_pure (h _ s.heap s.toks (Grow.refl _ _) q .none)
theorem part_some {e:Expr} {k:Int} (h1:Ev S n env ρ σ (eval e env) (.d (.int k)) σ₁):Part S n env ρ σ (some e) (some k) σ₁:=.mk fun V A s Q E rm q h=>
 h1.run V A s Q E rm q fun v h' tk g q1 r=>by obtain ⟨t,rfl⟩:=Rd.ofInt r;exact h _ h' tk g q1 (.int _ _)
theorem ev_slice {σ₃ σ₄:Sto} {value:Expr} {lo hi st:Option Expr} {p pos:Pos} {xs ys:List PyData} {kl kh ks:Option Int} (hv:Ev S n env ρ σ (eval value env) (.d (.list xs)) σ₁)
  (h1:Part S n env ρ σ₁ lo kl σ₂) (h2:Part S n env ρ σ₂ hi kh σ₃) (h3:Part S n env ρ σ₃ st ks σ₄) (h0:ks≠some 0) (hz:xs.length≤1000000)
  (hp:∀ (V:Addr→Prop) (h:Heap) (its:Array Value),RdAll V h its.toList xs→RdAll V h (slicePick its kl kh ks).toList ys)
  (hs:∀ o i,∃ ops,subscripted (.Slice lo hi st p) false o i=operate ops (getItem o i)) :
  Ev S n env ρ σ (eval (.Subscript value (.Slice lo hi st p) pos) env) (.d (.list ys)) σ₄:=by
 constructor;intro V A s Q E rm q h
 refine Subscript_ (wpAny_pos rm.pos (hv.run V A s _ E rm q fun v h' tk g q1 r p1=>?_))
 refine wpAny_Slice (wpAny_pos p1 (h1.run V A _ _ E (rm.at p1) q1 fun vl ha ta ga qa ra p2=>wpAny_pos p2 (h2.run V A _ _ E (rm.at p2) qa fun vu hb tb gb qb rb p3=>h3.run V A _ _ E (rm.at p3) qb fun vs hc tc gc qc rc=>?_)))
 have gR:=(ga.trans gb).trans gc
 obtain ⟨a,its,rfl,nv,hl,ra'⟩:=Rd.isList (Rd.grow gR q1.vok.1 r)
 obtain ⟨ops,e⟩:=hs (.ref a) (.ref hc.objs.size)
 dsimp only
 refine tail_any (hl.push _).typeIs slot_list_getitem.lookup (wpAny_getItem_list_slice (hl.push _) (Heap.IsSliceOf.new ..) ra rb rc h0 ?_ ?_) e
 ·refine h _ _ tc (((g.trans gR).trans (Grow.push _ _)).trans (Grow.push _ _)) ((qc.more (Grow.push _ _)).more (Grow.push _ _)) ?_
  exact .list (fresh_off (qc.more (Grow.push _ _)).vok.2) (Heap.get?_push_size _ rfl) ⟨rfl,rfl,rfl⟩ rfl (RdAll.grow ((Grow.push (X:=fun _u=>False) _ _).trans (Grow.push _ _)) (fun _u k=>k.elim) (hp _ _ _ ra'))
 rw [ra'.size];exact Nat.le_trans hz (by decide)
theorem slices_plain {lo hi:Option Expr} {p:Pos} (o i:Value):∃ ops,subscripted (.Slice lo hi none p) false o i=operate ops (getItem o i):=⟨_,rfl⟩
theorem ev_upto {value hi:Expr} {p pos:Pos} {xs:List PyData} {k:Nat} (hv:Ev S n env ρ σ (eval value env) (.d (.list xs)) σ₁) (h2:Ev S n env ρ σ₁ (eval hi env) (.d (.int k)) σ₂) (hz:xs.length≤1000000) :
  Ev S n env ρ σ (eval (.Subscript value (.Slice none (some hi) none p) pos) env) (.d (.list (xs.take k))) σ₂:=
 ev_slice hv part_none (part_some h2) part_none (by simp) hz (fun V h its r=>by rw [slicePick_upto'];simpa using r.take k) slices_plain
theorem ev_butlast {value hi:Expr} {p pos:Pos} {xs:List PyData} (hv:Ev S n env ρ σ (eval value env) (.d (.list xs)) σ₁) (h2:Ev S n env ρ σ₁ (eval hi env) (.d (.int (-1))) σ₂) (hz:xs.length≤1000000) :
  Ev S n env ρ σ (eval (.Subscript value (.Slice none (some hi) none p) pos) env) (.d (.list (xs.take (xs.length - 1)))) σ₂:=
 ev_slice hv part_none (part_some h2) part_none (by simp) hz (fun V h its r=>by
  have:=slicePick_butLast its 1 (Nat.le_refl _)
  rw [show (-((1:Nat):Int)) = -1 from rfl] at this
  rw [this,r.size];simpa using r.take (xs.length - 1)) slices_plain
theorem ev_rev {value st:Expr} {p pos:Pos} {xs:List PyData} (hv:Ev S n env ρ σ (eval value env) (.d (.list xs)) σ₁) (h2:Ev S n env ρ σ₁ (eval st env) (.d (.int (-1))) σ₂) (hz:xs.length≤1000000)
  (hs:∀ o i,∃ ops,subscripted (.Slice none none (some st) p) false o i=operate ops (getItem o i):=by intro o i;exact ⟨_,by with_unfolding_all rfl⟩) :
  Ev S n env ρ σ (eval (.Subscript value (.Slice none none (some st) p) pos) env) (.d (.list xs.reverse)) σ₂:=
 ev_slice hv part_none part_none (part_some h2) (by simp) hz (fun V h its r=>by rw [krv_pick];simpa using r.reverse) hs
theorem ev_tail {value lo:Expr} {p pos:Pos} {xs:List PyData} (hv:Ev S n env ρ σ (eval value env) (.d (.tuple xs)) σ₁) (h2:Ev S n env ρ σ₁ (eval lo env) (.d (.int 1)) σ₂) (hz:xs.length≤1000000) (h1:1≤xs.length) :
  Ev S n env ρ σ (eval (.Subscript value (.Slice (some lo) none none p) pos) env) (.d (.tuple (xs.drop 1))) σ₂:=by
 constructor;intro V A s Q E rm q h
 refine Subscript_ (wpAny_pos rm.pos (hv.run V A s _ E rm q fun v h' tk g q1 r p1=>?_))
 refine wpAny_Slice (h2.run V A _ _ E (rm.at p1) q1 fun vl ha ta ga qa ra=>?_)
 rw [evalPart_none]
 refine wpAny_pure (wpAny_pure ?_)
 obtain ⟨a,its,rfl,nv,ht,ra'⟩:=Rd.isTuple (Rd.grow ga q1.vok.1 r)
 obtain ⟨tt,rfl⟩:=Rd.ofInt ra
 dsimp only
 have ht':IsTup (ha.push { cls:=.type "slice",data:=.fields #[.int 1 tt,.none,.none] }) a its:=by
  obtain ⟨o,e,c⟩:=ht
  exact ⟨o,Heap.get?_push_of_some _ e,c⟩
 refine tail_any (s:=⟨_,_,_,_,_⟩) (T:="tuple") ht'.typeIs slot_tuple_getitem.lookup (getItem_tuple_from (a:=1) ht' (Heap.IsSliceOf.new ..) (Nat.le_refl _) (by rw [ra'.size];exact h1) ?_ (by rw [ra'.size];exact Nat.le_trans hz (by decide))) rfl
 refine h _ _ ta (((g.trans ga).trans (Grow.push _ _)).trans (Grow.push _ _)) ((qa.more (Grow.push _ _)).more (Grow.push _ _)) ?_
 exact .tuple (fresh_off (qa.more (Grow.push _ _)).vok.2) (Heap.get?_push_size _ rfl) ⟨rfl,rfl,rfl⟩ rfl (RdAll.grow ((Grow.push (X:=fun _u=>False) _ _).trans (Grow.push _ _)) (fun _u k=>k.elim) (by simpa using ra'.drop 1))
end rules
end
section
variable {S:Sys}
section rules
variable {n:Nat} {env:Env} {ρ ρ₁ ρ₂:List (Str × AV)} {σ σ₁ σ₂:Sto} {nm:List (Str × NameKind)}
theorem cmp_data_eq {a b:PyData} (ha:SeqAt.shaped a=true) (hb:SeqAt.shaped b=true):Cmp S .Eq (.d a) (.d b) (.d (.bool (PyData.eqv a b))):=by
 intro V A s vs Q E rm bs vk r h
 obtain ⟨v,u,rfl,r1,r2⟩:=r.two
 obtain ⟨_,q1⟩:=Rd.reads (SeqAt.canLay_of_shaped ha) r1
 obtain ⟨_,q2⟩:=Rd.reads (SeqAt.canLay_of_shaped hb) r2
 exact eq_dataH q1 q2 ha hb (by have:=rm.units;walk_at "o") (h _ s.heap s.toks (Grow.refl _ _) (.bool _))
theorem cmp_data_ne {a b:PyData} (ha:SeqAt.shaped a=true) (hb:SeqAt.shaped b=true):Cmp S .NotEq (.d a) (.d b) (.d (.bool (!PyData.eqv a b))):=by
 intro V A s vs Q E rm bs vk r h
 obtain ⟨v,u,rfl,r1,r2⟩:=r.two
 obtain ⟨_,q1⟩:=Rd.reads (SeqAt.canLay_of_shaped ha) r1
 obtain ⟨_,q2⟩:=Rd.reads (SeqAt.canLay_of_shaped hb) r2
 exact ne_dataH q1 q2 ha hb (by have:=rm.units;walk_at "o") (h _ s.heap s.toks (Grow.refl _ _) (.bool _))
theorem cmp_in_list {d:PyData} {xs:List PyData} (hx:PyData.canLayAll0 xs=true) (hd:d.canLay0=true) (hz:d.depth≤60):Cmp S .In (.d d) (.d (.list xs)) (.d (.bool (xs.any fun y=>PyData.eqv y d))):=by
 intro V A s vs Q E rm bs vk r h
 obtain ⟨v,u,rfl,r1,r2⟩:=r.two
 obtain ⟨_,q1⟩:=Rd.reads hd r1
 obtain ⟨_,q2⟩:=Rd.reads (by simpa [PyData.canLay0] using hx) r2
 exact SeqAt.in_list_reads q2 q1 hx hd (by have:=rm.units;have:=Nat.min_le_right (PyData.depthAll xs) d.depth;walk_at "o") (h _ s.heap s.toks (Grow.refl _ _) (.bool _))
theorem cmp_notin_list {d:PyData} {xs:List PyData} (hx:PyData.canLayAll0 xs=true) (hd:d.canLay0=true) (hz:d.depth≤60):Cmp S .NotIn (.d d) (.d (.list xs)) (.d (.bool (!xs.any fun y=>PyData.eqv y d))):=by
 intro V A s vs Q E rm bs vk r h
 obtain ⟨v,u,rfl,r1,r2⟩:=r.two
 obtain ⟨_,q1⟩:=Rd.reads hd r1
 obtain ⟨_,q2⟩:=Rd.reads (by simpa [PyData.canLay0] using hx) r2
 exact SeqAt.notIn_list_reads q2 q1 hx hd (by have:=rm.units;have:=Nat.min_le_right (PyData.depthAll xs) d.depth;walk_at "o") (h _ s.heap s.toks (Grow.refl _ _) (.bool _))
theorem cmp_in_tuple {d:PyData} {xs:List PyData} (hx:PyData.canLayAll0 xs=true) (hd:d.canLay0=true) (hz:d.depth≤60):Cmp S .In (.d d) (.d (.tuple xs)) (.d (.bool (xs.any fun y=>PyData.eqv y d))):=by
 intro V A s vs Q E rm bs vk r h
 obtain ⟨v,u,rfl,r1,r2⟩:=r.two
 obtain ⟨_,q1⟩:=Rd.reads hd r1
 obtain ⟨_,q2⟩:=Rd.reads (by simpa [PyData.canLay0] using hx) r2
 exact SeqAt.in_tuple_reads q2 q1 hx hd (by have:=rm.units;have:=Nat.min_le_right (PyData.depthAll xs) d.depth;walk_at "o") (h _ s.heap s.toks (Grow.refl _ _) (.bool _))
theorem bin_cat {xs ys:List PyData} (hz:xs.length+ys.length≤1000000):Bin S .Add (.d (.list xs)) (.d (.list ys)) (.d (.list (xs++ys))):=by
 intro V A s vs Q E rm bs vk r h
 obtain ⟨v,u,rfl,r1,r2⟩:=r.two
 obtain ⟨a,xa,rfl,na,ha,ra⟩:=Rd.isList r1
 obtain ⟨b,xb,rfl,nb,hb,rb⟩:=Rd.isList r2
 obtain ⟨⟨cls,dd,data,sl⟩,ho,hc,k,hd⟩:=id ha
 obtain ⟨⟨cls2,dd2,data2,sl2⟩,ho2,hc2,k2,hd2⟩:=id hb
 simp only at hc hd hc2 hd2
 subst hc hd hc2 hd2
 refine concat_meets ⟨_,ho,rfl⟩ ⟨_,ho2,rfl⟩ noFill_list_add seq_list_add PySem.F.slot_list_add PySem.F.entry_list_add (PySem.F.args_list_add_2 _ _) (list_addW a b xa xb k k2 dd dd2 sl sl2 (by rw [ra.size,rb.size];exact Nat.le_trans hz (by decide))) ⟨ho,ho2,?_⟩
 refine h _ _ s.toks (Grow.push _ _) (.list (fresh_off vk) (Heap.get?_push_size _ rfl) ⟨rfl,rfl,rfl⟩ rfl (RdAll.grow (Grow.push (X:=fun _u=>False) _ _) (fun _u k=>k.elim) ?_))
 rw [Array.toList_append]
 exact ra.append rb
theorem ev_callbW {id:Str} {p pos:Pos} {es:List Expr} {b:String} {as:List AV} {c:AV} (hf:Ev S n env ρ σ (eval (.Name id p) env) (.v (.builtin b)) σ)
  (h1:Evs S n env ρ σ (spliced (backTo pos (starEach es env))) as σ₁) (ho:OpW S σ₁ as (fun vs=>call (.builtin b) vs) fun V h v=>VR V h v c) (hs:(starEach es env).all (fun p=>!p.1)=true:=by rfl)
  (hs':(backTo pos (starEach es env)).any (·.1)=false:=by rfl):Ev S n env ρ σ (eval (.Call (.Name id p) es [] pos) env) c σ₁:=by
 constructor;intro V A s Q E rm q h
 refine wpAny_Call_Name_kw (wpAny_pos rm.pos (hf.run V A s _ E rm q fun v h' tk g q1 r p1=>?_))
 cases r
 refine callWith_builtin hs' (evalArgs_any (wpAny_pos p1 (h1.run V A _ _ E (rm.at p1) q1 fun vs h'' tk' g' q2 r2 p2=>?_)) hs)
 exact ho V A _ vs Q E ((rm.at p2).le (Nat.zero_le _)) q2.base q2.vok q2.wd r2 fun v h3 tk3 g3 r3=>h v h3 tk3 ((g.trans g').trans g3.none) (q2.more g3) r3
theorem ev_callb {id:Str} {p pos:Pos} {es:List Expr} {b:String} {as:List AV} {c:AV} (hf:Ev S n env ρ σ (eval (.Name id p) env) (.v (.builtin b)) σ)
  (h1:Evs S n env ρ σ (spliced (backTo pos (starEach es env))) as σ₁) (ho:Op S as (fun vs=>call (.builtin b) vs) fun V h v=>VR V h v c) (hs:(starEach es env).all (fun p=>!p.1)=true:=by rfl)
  (hs':(backTo pos (starEach es env)).any (·.1)=false:=by rfl):Ev S n env ρ σ (eval (.Call (.Name id p) es [] pos) env) c σ₁:=ev_callbW hf h1 (op ho) hs hs'
theorem ev_callt {id:Str} {p pos:Pos} {es:List Expr} {b:String} {as:List AV} {c:AV} (hf:Ev S n env ρ σ (eval (.Name id p) env) (.v (.type b)) σ)
  (h1:Evs S n env ρ σ (spliced (backTo pos (starEach es env))) as σ₁) (ho:Op S as (fun vs=>call (.type b) vs) fun V h v=>VR V h v c) (hs:(starEach es env).all (fun p=>!p.1)=true:=by rfl)
  (hs':(backTo pos (starEach es env)).any (·.1)=false:=by rfl):Ev S n env ρ σ (eval (.Call (.Name id p) es [] pos) env) c σ₁:=by
 constructor;intro V A s Q E rm q h
 refine wpAny_Call_Name_kw (wpAny_pos rm.pos (hf.run V A s _ E rm q fun v h' tk g q1 r p1=>?_))
 cases r
 refine PyProof.Rows.callWith_type hs' (evalArgs_any (wpAny_pos p1 (h1.run V A _ _ E (rm.at p1) q1 fun vs h'' tk' g' q2 r2 p2=>?_)) hs)
 exact ho V A _ vs Q E ((rm.at p2).le (Nat.zero_le _)) q2.base q2.vok.2 r2 fun v h3 tk3 g3 r3=>h v h3 tk3 ((g.trans g').trans g3.none) (q2.more g3) r3
noncomputable abbrev Blt (S:Sys) (b:String) (as:List AV) (c:AV):Prop:=Op S as (fun vs=>call (.builtin b) vs) fun V h v=>VR V h v c
theorem blt_len_list {xs:List PyData} (hz:xs.length≤1000000):Blt S "len" [.d (.list xs)] (.d (.int xs.length)):=by
 intro V A s vs Q E rm bs vk r h
 obtain ⟨v,rfl,r1⟩:=r.one
 obtain ⟨a,xa,rfl,na,ha,ra⟩:=Rd.isList r1
 have e:=ra.size
 refine len_list ha (by walk_at "o") ?_
 rw [e]
 exact h _ s.heap _ (Grow.refl _ _) (.int _ _)
theorem blt_abs {i:Int}:Blt S "abs" [.d (.int i)] (.d (.int (if i<0 then -i else i))):=by
 intro V A s vs Q E rm bs vk r h
 obtain ⟨v,rfl,r1⟩:=r.one
 obtain ⟨t1,rfl⟩:=Rd.ofInt r1
 exact call_abs_int fun u tk=>h _ s.heap tk (Grow.refl _ _) (.int _ _)
theorem blt_min {a b:Int}:Blt S "min" [.d (.int a),.d (.int b)] (.d (.int (if b<a then b else a))):=by
 intro V A s vs Q E rm bs vk r h
 obtain ⟨v,u,rfl,r1,r2⟩:=r.two
 obtain ⟨t1,rfl⟩:=Rd.ofInt r1
 obtain ⟨t2,rfl⟩:=Rd.ofInt r2
 refine min_two_ints rm.h fun h' tk k=>?_
 split <;> exact h _ h' tk (.of k) (by first | (rw [if_pos (by assumption)];exact .int _ _) | (rw [if_neg (by assumption)];exact .int _ _))
theorem blt_isi_int_int {i:Int}:Blt S "isinstance" [.d (.int i),.v (.type "int")] (.d (.bool true)):=by
 intro V A s vs Q E rm bs vk r h
 obtain ⟨v,u,rfl,r1,r2⟩:=r.two
 obtain ⟨t1,rfl⟩:=Rd.ofInt r1
 have r2:_=_:=r2
 subst r2
 exact IsiPair.int_int (h _ s.heap _ (Grow.refl _ _) (.bool _))
theorem blt_isi_int_bool {i:Int}:Blt S "isinstance" [.d (.int i),.v (.type "bool")] (.d (.bool false)):=by
 intro V A s vs Q E rm bs vk r h
 obtain ⟨v,u,rfl,r1,r2⟩:=r.two
 obtain ⟨t1,rfl⟩:=Rd.ofInt r1
 have r2:_=_:=r2
 subst r2
 exact IsiPair.int_bool (h _ s.heap _ (Grow.refl _ _) (.bool _))
theorem blt_isi_tuple_int {xs:List PyData}:Blt S "isinstance" [.d (.tuple xs),.v (.type "int")] (.d (.bool false)):=by
 intro V A s vs Q E rm bs vk r h
 obtain ⟨v,u,rfl,r1,r2⟩:=r.two
 have r2:_=_:=r2
 subst r2
 refine Rd.ofTuple r1 fun a o vs k n e c d r ev=>?_
 subst ev
 exact IsiPair.tuple_int e c.1 (h _ s.heap _ (Grow.refl _ _) (.bool _))
end rules
end
section
variable {S:Sys}
theorem View.wide {V V':Addr→Prop} {env:Env} {h h':Heap} {ρ:List (Str × AV)} {σ:Sto} (q:View S V env h ρ σ) (g:Grow (fun _u=>False) h h') (sub:∀ a,V a→V' a)
  (new:∀ a,V' a→V a∨(h.get? a=none∧∃ o,h'.get? a=some o)):View S V' env h' ρ σ:=by
 have to:∀ a,V' a→V a∨h.get? a=none:=fun a k=>(new a k).imp id fun k=>k.1
 obtain ⟨m,hn,hv⟩:=q.fr
 refine ⟨q.base.grow q.vok g (fun _u k=>k.elim),⟨fun a k=>sub a (q.vok.1 a k),fun a k=>?_⟩,⟨m,ns_grow hn g (fun k=>k),fun p hp=>?_⟩,fun x c e=>?_,q.apart,⟨sub _ q.own.1,q.own.2⟩,fun x c e=>⟨sub _ (q.ownC x c e).1,(q.ownC x c e).2⟩,S.grow (S.to q.wd to fun a k=>sub a (q.vok.1 a k)) g (fun _u k=>k.elim) fun _u k=>k.elim⟩
 ·rcases new a k with k | ⟨k,o,e⟩
  exact ⟨(q.vok.2 a k).1,let ⟨o,e⟩:=(q.vok.2 a k).2;⟨o,g a o e fun k=>k⟩⟩
  refine ⟨?_,o,e⟩
  cases e':S.h₁.get? a with
  | none=>rfl
  | some o'=>rw [q.base a o' e'] at k;cases k
 ·obtain ⟨v,r,k⟩:=hv p hp
  exact ⟨v,(r.to to).grow g (fun _u k=>k.elim),k.imp (fun k=>k) fun ⟨k1,c,k2,k3⟩=>⟨k1,c,k2,cell_grow k3 g (fun k=>k)⟩⟩
 obtain ⟨v,k⟩:=q.cl x c e
 exact ⟨v,cell_grow k g fun k=>k⟩
theorem View.last {V V' X:Addr→Prop} {env:Env} {h h':Heap} {ρ:List (Str × AV)} {σ:Sto} (q:View S V' env h ρ σ) (g:Grow X h h') (sub:∀ a,V a→V' a) (xv:∀ a,X a→V' a) (off:∀ a,X a→¬V a)
  (hR:∀ a,S.R a→V a) (hL:V env.locals) (hC:∀ x c,env.cells.lookup x=some c→V c):View S V env h' ρ σ:=by
 obtain ⟨m,hn,hv⟩:=q.fr
 have xl:∀ a,V a→¬X a:=fun a k x=>off a x k
 refine ⟨q.base.grow q.vok g xv,⟨hR,fun a k=>⟨(q.vok.2 a (sub a k)).1,let ⟨o,e⟩:=(q.vok.2 a (sub a k)).2;⟨o,g a o e (xl a k)⟩⟩⟩,⟨m,ns_grow hn g (xl _ hL),fun p hp=>?_⟩,fun x c e=>?_,q.apart,⟨hL,q.own.2⟩,fun x c e=>⟨hC x c e,(q.ownC x c e).2⟩,S.to (S.grow q.wd g xv fun a x k=>off a x (hR a k)) (fun a k=>.inl (sub a k)) hR⟩
 ·obtain ⟨v,r,k⟩:=hv p hp
  exact ⟨v,(r.grow g xv).to (fun a k=>.inl (sub a k)),k.imp (fun k=>k) fun ⟨k1,c,k2,k3⟩=>⟨k1,c,k2,cell_grow k3 g (xl _ (hC _ _ k2))⟩⟩
 obtain ⟨v,k⟩:=q.cl x c e
 exact ⟨v,cell_grow k g (xl _ (hC _ _ e))⟩
noncomputable def IterOf (S:Sys) (a:AV) (items:List PyData):Prop:=
 ∀ (V:Addr→Prop) (A:Around) (s:Shared) (v:Value) (Q:Value→Shared→Prop) (E:Value→Shared→Prop),A.handled=none→VOk S V s.heap→VR V s.heap v a →
  (∀ (I:Addr) (fp wr:List Addr) (P:Nat→Value→Prop) (St:Nat→Heap→Prop) (h':Heap) (tk:Nat),Grow (fun _u=>False) s.heap h'→Walks S.prog S.w A I fp wr items.length P St→St 0 h' →
   (∀ b∈wr,s.heap.get? b=none∧∃ o,h'.get? b=some o)→(∀ i h,St i h→∀ b∈wr,∃ o,h.get? b=some o)→(∀ b∈fp,b∈wr∨(¬V b∧∃ o,s.heap.get? b=some o))→(∀ i v,P i v→∃ d,items[i]?=some d∧Rd V s.heap v d)→Q (.ref I) { s with heap:=h',toks:=tk }) →
  wpAny (model S.prog S.w) A (pyIter v) Q E s
theorem iter_list {xs:List PyData}:IterOf S (.d (.list xs)) xs:=by
 intro V A s v Q E hh vk r h
 obtain ⟨a,its,rfl,nv,hl,ra⟩:=Rd.isList r
 refine wpAny_pyIter_list hl ?_
 have W:=Walks.list (prog:=S.prog) (w:=S.w) hh s.heap.objs.size a (fun e=>by obtain ⟨o,e',_⟩:=hl;exact Nat.lt_irrefl _ (e▸Heap.lt_size e')) its
 rw [ra.size] at W
 refine h _ _ _ _ _ _ s.toks (Grow.push _ _) W ⟨⟨_,Heap.get?_push_size _ rfl,rfl,rfl⟩,hl.push _⟩ (fun b hb=>?_) (fun i h st b hb=>by rw [List.mem_singleton.mp hb];obtain ⟨o,e,_⟩:=st.1;exact ⟨o,e⟩) (fun b hb=>?_) fun i v e=>?_
 ·rw [List.mem_singleton.mp hb];exact ⟨none_size _ (Nat.le_refl _),_,Heap.get?_push_size _ rfl⟩
 ·rcases List.mem_cons.mp hb with rfl | hb
  exact .inl (.head _)
  rw [List.mem_singleton.mp hb]
  obtain ⟨o,e',_⟩:=hl
  exact .inr ⟨nv,o,e'⟩
 have e':its.toList[i]?=some v:=by simpa using e
 have hi:i<xs.length:=by
  rw [← ra.length]
  exact (List.getElem?_eq_some_iff.mp e').1
 obtain ⟨y,hy,ry⟩:=ra.at (List.getElem?_eq_getElem hi)
 refine ⟨_,List.getElem?_eq_getElem hi,?_⟩
 have:its[i]?=some v:=e
 rw [this] at hy;cases hy;exact ry
theorem iter_tuple {xs:List PyData}:IterOf S (.d (.tuple xs)) xs:=by
 intro V A s v Q E hh vk r h
 obtain ⟨a,its,rfl,nv,hl,ra⟩:=Rd.isTuple r
 have hl':s.heap.IsTuple a its:=hl
 refine wpAny_pyIter_tuple hl' ?_
 have W:=Walks.tuple (prog:=S.prog) (w:=S.w) hh s.heap.objs.size a (fun e=>by obtain ⟨o,e',_⟩:=hl;exact Nat.lt_irrefl _ (e▸Heap.lt_size e')) its
 rw [ra.size] at W
 refine h _ _ _ _ _ _ s.toks (Grow.push _ _) W ⟨⟨_,Heap.get?_push_size _ rfl,rfl,rfl⟩,hl'.push _⟩ (fun b hb=>?_) (fun i h st b hb=>by rw [List.mem_singleton.mp hb];obtain ⟨o,e,_⟩:=st.1;exact ⟨o,e⟩) (fun b hb=>?_) fun i v e=>?_
 ·rw [List.mem_singleton.mp hb];exact ⟨none_size _ (Nat.le_refl _),_,Heap.get?_push_size _ rfl⟩
 ·rcases List.mem_cons.mp hb with rfl | hb
  exact .inl (.head _)
  rw [List.mem_singleton.mp hb]
  obtain ⟨o,e',_⟩:=hl
  exact .inr ⟨nv,o,e'⟩
 have e':its.toList[i]?=some v:=by simpa using e
 have hi:i<xs.length:=by
  rw [← ra.length]
  exact (List.getElem?_eq_some_iff.mp e').1
 obtain ⟨y,hy,ry⟩:=ra.at (List.getElem?_eq_getElem hi)
 refine ⟨_,List.getElem?_eq_getElem hi,?_⟩
 have:its[i]?=some v:=e
 rw [this] at hy;cases hy;exact ry
noncomputable def upTo (n:Nat):List PyData:=(List.range n).map fun i=>.int (i:Nat)
theorem iter_range {n:Nat} (hn:n<2 ^ 60):IterOf S (.rg n) (upTo n):=by
 intro V A s v Q E hh vk r h
 obtain ⟨a,t,u,w,rfl,nv,hr⟩:=r
 have hsz:Builtin.Range.rangeSize 0 n 1=(n:Int):=by
  unfold Builtin.Range.rangeSize
  simp;walk_at "o"
 refine wpAny_pyIter_range hr (small_one (by decide) (by decide) (by walk_at "o") (by walk_at "o")) ?_
 have W:=(Walks.range (prog:=S.prog) (w:=S.w) (A:=A) hh s.heap.objs.size 0 1 n).bound
 have e:n=(upTo n).length:=by simp [upTo]
 rw [hsz]
 have st:IsRangeIter (s.heap.push { cls:=.type "range_iterator",data:=.fields #[rawInt 0,rawInt (n:Int),rawInt 1] }) s.heap.objs.size (0+((0:Nat):Int)*1) ((n:Int) - ((0:Nat):Int)) 1:=by
  have:IsRangeIter (s.heap.push { cls:=.type "range_iterator",data:=.fields #[rawInt 0,rawInt (n:Int),rawInt 1] }) s.heap.objs.size 0 n 1:=Heap.get?_push_size _ rfl
  simpa using this
 have W':Walks S.prog S.w A s.heap.objs.size [s.heap.objs.size] [s.heap.objs.size] (upTo n).length (fun i v=>i<n∧∃ t,v=.int (0+i*1) t) (fun i h=>IsRangeIter h s.heap.objs.size (0+(i:Nat)*1) ((n:Int) - (i:Nat)) 1):=by rw [← e];exact W
 refine h _ _ _ _ _ _ s.toks (Grow.push _ _) W' st (fun b hb=>?_) (fun i h st b hb=>by rw [List.mem_singleton.mp hb];exact ⟨_,st⟩) (fun b hb=>.inl hb) fun i v k=>?_
 ·rw [List.mem_singleton.mp hb];exact ⟨none_size _ (Nat.le_refl _),_,Heap.get?_push_size _ rfl⟩
 obtain ⟨hi,t,rfl⟩:=k
 refine ⟨.int (i:Nat),by simp [upTo,hi],?_⟩
 have:(0+(i:Int)*1)=(i:Int):=by walk_at "o"
 rw [this];exact .int _ _
inductive Turns (S:Sys) (n:Nat) (env:Env) (x:Str) (body:List Stmt):List PyData→List (Str × AV)→Sto→Out Sto→Prop
 | nil {ρ σ}:Turns S n env x body [] ρ σ (.next ρ σ)
 | cons {d ds ρ ρ₁ ρ₂ σ σ₂ o}:Upd x (.d d) ρ ρ₁→Ex S n env ρ₁ σ (execs body env) (.next ρ₂ σ₂)→Turns S n env x body ds ρ₂ σ₂ o→Turns S n env x body (d::ds) ρ σ o
 | ret {d ds ρ ρ₁ σ σ₂ a}:Upd x (.d d) ρ ρ₁→Ex S n env ρ₁ σ (execs body env) (.ret a σ₂)→Turns S n env x body (d::ds) ρ σ (.ret a σ₂)
theorem Turns.elim {n:Nat} {env:Env} {x:Str} {body:List Stmt} {d:PyData} {ds:List PyData} {ρ:List (Str × AV)} {σ:Sto} {o:Out Sto} {P:Prop} (h:Turns S n env x body (d::ds) ρ σ o)
  (h1:∀ ρ₁ ρ₂ σ₂,Upd x (.d d) ρ ρ₁→Ex S n env ρ₁ σ (execs body env) (.next ρ₂ σ₂)→Turns S n env x body ds ρ₂ σ₂ o→P)
  (h2:∀ ρ₁ a σ₂,Upd x (.d d) ρ ρ₁→Ex S n env ρ₁ σ (execs body env) (.ret a σ₂)→o=.ret a σ₂→P):P:=by
 cases h with
 | cons a b c=>exact h1 _ _ _ a b c
 | ret a b=>exact h2 _ _ _ a b rfl
theorem Turns.fin {n:Nat} {env:Env} {x:Str} {body:List Stmt} {ρ:List (Str × AV)} {σ:Sto} {o:Out Sto} (h:Turns S n env x body [] ρ σ o):o=.next ρ σ:=by
 cases h;rfl
inductive ForI (S:Sys) (n:Nat) (env:Env) (x:Str) (body:List Stmt) (items:List PyData) (o:Out Sto) (V:Addr→Prop) (wr:List Addr) (St:Nat→Heap→Prop) (h0:Heap) (s:Shared) (k:Nat) (s':Shared):Prop
 | mk (i:Nat) (ρ:List (Str × AV)) (σ:Sto) (h:Heap) (tk:Nat) (es:s' = { s with heap:=h,toks:=tk }) (q:View S (fun a=>V a∨a∈wr) env h ρ σ) (st:St i h) (ht:Turns S n env x body (items.drop i) ρ σ o)
   (g:Grow (fun a=>(S.R a∨Own env a)∨a∈wr) h0 h) (le:i≤items.length) (ek:k=items.length+1 - i) (p:0<tk):ForI S n env x body items o V wr St h0 s k s'
theorem drop_step {α:Type} {l:List α} {i:Nat} {d:α} (h:i<l.length) (hd:l[i]?=some d):l.drop i=d::l.drop (i+1):=by
 rw [List.drop_eq_getElem_cons h]
 rw [List.getElem?_eq_getElem h] at hd
 rw [Option.some.inj hd]
theorem turn_less {a i:Nat} (h:i<a):a+1 - (i+1)<a+1 - i:=by walk_at "o"
section rules
variable {n:Nat} {env:Env} {ρ ρ₁ ρ₂:List (Str × AV)} {σ σ₁ σ₂:Sto} {nm:List (Str × NameKind)} {o:Out Sto}
set_option maxHeartbeats 8000000 in
theorem ex_for {x:Str} {px pos:Pos} {iter:Expr} {body:List Stmt} {a:AV} {items:List PyData} (f:Fn env nm) (hb:Binds env x) (h1:Ev S n env ρ σ (eval iter env) a σ₁) (hi:IterOf S a items) (ht:Turns S n env x body items ρ σ₁ o)
  (hs:∀ x,foldedSetIterable iter env x=pure x:=by intro _;rfl):Ex S n env ρ σ (exec (.For (.Name x px) iter body [] pos) env) o:=by
 constructor;intro V A s Q E rm q h
 refine wpAny_For (wpAny_pos rm.pos (h1.run V A s _ E rm q fun v h0 tk0 g0 q0 r0 p0=>wpAny_pos p0 (hi V A _ v _ E rm.h q0.vok r0 fun I fp wr P St h' tk g W hst hwr hwx hfp hP p'=>?_))) hs
 dsimp only at g hwr hfp hP ⊢
 have wrV:∀ b,b∈wr→¬V b:=fun b hb k=>by
  obtain ⟨o,e⟩:=(q0.vok.2 b k).2
  rw [(hwr b hb).1] at e;cases e
 have q':View S (fun a=>V a∨a∈wr) env h' ρ σ₁:=q0.wide g (fun _u k=>.inl k) fun a k=>k.imp id fun k=>hwr a k
 have fpOff:∀ b∈fp,¬(S.R b∨Own env b):=fun b hb k=>by
  have kv:V b:=k.elim (q0.vok.1 b) fun k=>k.elim (fun e=>e▸q0.own.1) fun ⟨y,e⟩=>(q0.ownC y b e).1
  rcases hfp b hb with hw | hw
  exact wrV b hw kv;exact hw.1 kv
 have wrOff:∀ b∈wr,¬(S.R b∨Own env b):=fun b hb=>fpOff b (W.sub b hb)
 have owns:∀ a,(S.R a∨Own env a)→V a:=fun a k=>k.elim (q0.vok.1 a) fun k=>k.elim (fun e=>e▸q0.own.1) fun ⟨y,e⟩=>(q0.ownC y a e).1
 refine codeAny_forLoop (ForI S n env x body items o V wr St h0 s) ?_ (items.length+1) (.mk 0 ρ σ₁ h' tk rfl q' hst ht g.none (Nat.zero_le _) rfl p')
 rintro k s' ⟨i,ρi,σi,hh,tk,rfl,qi,hsti,hti,gi,hle,rfl,pi⟩
 by_cases hlt:i<items.length
 ·refine wpAny_pos pi (W.item i _ _ _ hlt hsti fun u h₁ tk₁ hPu hst₁ hk₁ p₁=>?_)
  have p₁:0<tk₁:=p₁
  obtain ⟨d,hd,rd⟩:=hP i u hPu
  have hdrop:=drop_step hlt hd
  rw [hdrop] at hti
  have gw:Grow (fun a=>a∈wr) hh h₁:=fun b ob e hn=>hk₁ b ob hn e
  have ex₁:∀ b,b∈wr→∃ o,h₁.get? b=some o:=hwx _ _ hst₁
  have q₁:View S (fun a=>V a∨a∈wr) env h₁ ρi σi:=qi.grow gw ex₁ (fun _u k=>.inr k) (fun k=>wrOff _ k (.inr (.inl rfl))) (fun y c e k=>wrOff _ k (.inr (.inr ⟨y,e⟩))) (S.grow qi.wd gw (fun _u k=>.inr k) fun b k q=>wrOff b k (.inl q))
  have g₁:Grow (fun a=>(S.R a∨Own env a)∨a∈wr) h0 h₁:=gi.trans (gw.mono fun _u k=>.inr k)
  have rd₁:VR (fun a=>V a∨a∈wr) h₁ u (.d d):=by
   have r1:Rd (fun a=>V a∨a∈wr) h0 u d:=rd.to fun a k=>k.imp id fun k=>(hwr a k).1
   exact r1.grow g₁ fun a k=>k.imp (owns a) id
  have stp:∀ {h₂:Heap},Grow (fun a=>S.R a∨Own env a) h₁ h₂→St (i+1) h₂:=fun {h₂} g2=>W.frame _ _ _ hst₁ fun b hb o e=>g2 b o e (fpOff b hb)
  have turn:∀ {ρ':List (Str × AV)} {o':Out Sto} (R:Flow→Shared→Prop) (E':Value→Shared→Prop),Upd x (.d d) ρi ρ'→Ex S n env ρ' σi (execs body env) o' →
    (∀ fl h₃ tk₃,0<tk₃→Grow (fun a=>S.R a∨Own env a) h₁ h₃→OutR S (fun a=>V a∨a∈wr) env h₃ fl o'→R fl { s with heap:=h₃,toks:=tk₃ }) →
    wpAny (model S.prog S.w) A (assign (.Name x px) env u) (fun _u s₂=>wpAny (model S.prog S.w) A (execs body env) R E' s₂) E' { s with heap:=h₁,toks:=tk₁ }:=fun R E' hu he hR=>
   wpAny_assign_Name (wpAny_pos p₁ (bind_step f hb hu q₁ rd₁ fun h₂ tk₂ g₂ q₂ p₂=>wpAny_pos p₂ (he.run _ A _ _ E' (rm.at p₂) q₂ fun fl h₃ tk₃ g₃ r₃ p₃=>hR fl h₃ tk₃ p₃ ((g₂.mono fun _u k=>.inr k).trans g₃) r₃)))
  refine Turns.elim hti (fun ρ' ρ₂ σ₂ hu he hrest=>?_) (fun ρ' a σ₂ hu he ho=>?_)
  ·refine turn _ _ hu he fun fl h₃ tk₃ p₃ g₃ r₃=>?_
   have q₃:=r₃.2
   rw [r₃.1]
   exact ⟨items.length+1 - (i+1),turn_less hlt,.mk (i+1) _ _ h₃ tk₃ rfl q₃ (stp g₃) hrest (g₁.trans (g₃.mono fun _u k=>.inl k)) hlt rfl p₃⟩
  refine turn _ _ hu he fun fl h₃ tk₃ p₃ g₃ r₃=>?_
  obtain ⟨v,rfl,rv,wd⟩:=r₃
  refine h _ h₃ tk₃ (g0.own.trans ((g₁.trans (g₃.mono fun _u k=>.inl k)).drop fun a k=>k.imp id fun k=>(hwr a k).1)) ?_
  rw [ho]
  exact ⟨v,rfl,rv.to fun a k=>.inl (.inl k),S.to wd (fun a k=>.inl (.inl k)) q0.vok.1⟩
 have hin:i=items.length:=Nat.le_antisymm hle (Nat.le_of_not_lt hlt)
 rw [hin,List.drop_length] at hti
 refine W.done _ _ _ (hin▸hsti) fun h₁ tk₁ hk₁=>wpAny_execs_nil ?_
 have gw:Grow (fun a=>a∈wr) hh h₁:=fun b ob e hn=>hk₁ b ob hn e
 refine h _ h₁ tk₁ (g0.own.trans ((gi.trans (gw.mono fun _u k=>.inr k)).drop fun a k=>k.imp id fun k=>(hwr a k).1)) ?_
 rw [hti.fin]
 exact ⟨rfl,qi.last gw (fun _u k=>.inl k) (fun _u k=>.inr k) (fun a k=>wrV a k) q0.vok.1 q0.own.1 fun y c e=>(q0.ownC y c e).1⟩
end rules
end
section
variable {S:Sys}
noncomputable def closOf (cells:List (Str × Addr)):List (Str × NameKind)→List (Str × Addr)→List (Str × Addr)
 | [],acc=>acc
 | (n,k)::r,acc=>if k == .free then (match cells.lookup n with | some c=>closOf cells r ((n,c)::acc) | none=>closOf cells r acc) else closOf cells r acc
theorem closureFor_is {scope:Scope} {env:Env} (h:∀ p∈scope.names,p.2=.free→∃ c,env.cells.lookup p.1=some c):closureFor scope env=pure (closOf env.cells scope.names []):=by
 unfold closureFor
 have all:∀ (names:List (Str × NameKind)) (acc:List (Str × Addr)),(∀ p∈names,p.2=.free→∃ c,env.cells.lookup p.1=some c) →
   (forIn names acc fun (x:Str × NameKind) (cs:List (Str × Addr))=>(match x with | (name,kind)=>if (kind == NameKind.free)=true then (do let c ← cellOf env name;pure (ForInStep.yield ((name,c)::cs))) else pure (ForInStep.yield cs):Sem (ForInStep (List (Str × Addr)))))=pure (closOf env.cells names acc):=by
  intro names
  induction names with
  | nil=>intro acc _;rfl
  | cons p r ih=>
   intro acc hp
   obtain ⟨n,k⟩:=p
   rw [List.forIn_cons]
   have ihr:=fun acc=>ih acc fun q hq=>hp q (.tail _ hq)
   rw [closOf]
   by_cases hk:k=.free
   ·subst hk
    obtain ⟨c,hc⟩:=hp _ (.head _) rfl
    have hc:env.cells.lookup n=some c:=hc
    simp only [beq_self_eq_true,if_true,cellOf,hc,pure_bind]
    exact ihr _
   have hb:(k == NameKind.free)=false:=by simpa using hk
   simp only [hb,Bool.false_eq_true,if_false,pure_bind]
   exact ihr _
 have:=all scope.names [] h
 rw [bind_pure]
 exact this
set_option tactic.hygienic true in
theorem closOf_mem (cells:List (Str × Addr)):∀ (names:List (Str × NameKind)) (acc:List (Str × Addr)),(∀ p∈acc,cells.lookup p.1=some p.2)→∀ p∈closOf cells names acc,cells.lookup p.1=some p.2
 | [],acc,h=>h
 | (n,k)::r,acc,h=>by
  rw [closOf]
  split
  ·split
   ·rename_i c hc
    refine closOf_mem cells r _ fun p hp=>?_
    rcases List.mem_cons.mp hp with rfl | hp
    exact hc;exact h p hp
   exact closOf_mem cells r _ h
  exact closOf_mem cells r _ h
set_option tactic.hygienic true in
theorem closOf_keep (cells:List (Str × Addr)) {x:Str} {c:Addr} (hc:cells.lookup x=some c):∀ (names:List (Str × NameKind)) (acc:List (Str × Addr)),acc.lookup x=some c→(closOf cells names acc).lookup x=some c
 | [],acc,h=>h
 | (n,k)::r,acc,h=>by
  rw [closOf]
  split
  ·split
   ·rename_i d hd
    refine closOf_keep cells hc r _ ?_
    rw [List.lookup_cons]
    split
    ·rename_i e
     have e:x=n:=by simpa using e
     subst e
     rw [hc] at hd;exact hd.symm
    exact h
   exact closOf_keep cells hc r _ h
  exact closOf_keep cells hc r _ h
theorem closOf_free (cells:List (Str × Addr)) {x:Str} {c:Addr} (hc:cells.lookup x=some c):∀ (names:List (Str × NameKind)) (acc:List (Str × Addr)),(x,NameKind.free)∈names→(closOf cells names acc).lookup x=some c
 | (n,k)::r,acc,h=>by
  rw [closOf]
  rcases List.mem_cons.mp h with e | h
  ·cases e
   simp only [beq_self_eq_true,if_true,hc]
   exact closOf_keep cells hc r _ (by rw [List.lookup_cons,beq_self_eq_true])
  split
  ·split
   exact closOf_free cells hc r _ h;exact closOf_free cells hc r _ h
  exact closOf_free cells hc r _ h
set_option tactic.hygienic true in
theorem closOf_apart (cells:List (Str × Addr)) (ap:cells.Pairwise fun x y=>x.2≠y.2):∀ (names:List (Str × NameKind)) (acc:List (Str × Addr)),(names.map (·.1)).Nodup→(∀ p∈acc,p.1∉names.map (·.1))→(∀ p∈acc,cells.lookup p.1=some p.2) →
  acc.Pairwise (fun x y=>x.2≠y.2)→(closOf cells names acc).Pairwise fun x y=>x.2≠y.2
 | [],acc,_,_,_,h=>h
 | (n,k)::r,acc,hn,ho,hm,h=>by
  rw [List.map_cons,List.nodup_cons] at hn
  have ho':∀ p∈acc,p.1∉r.map (·.1):=fun p hp q=>ho p hp (by rw [List.map_cons];exact .tail _ q)
  rw [closOf]
  split
  ·split
   ·rename_i c hc
    refine closOf_apart cells ap r _ hn.2 (fun p hp=>?_) (fun p hp=>?_) (List.pairwise_cons.mpr ⟨fun p hp e=>?_,h⟩)
    ·rcases List.mem_cons.mp hp with rfl | hp
     exact hn.1;exact ho' p hp
    ·rcases List.mem_cons.mp hp with rfl | hp
     exact hc;exact hm p hp
    have e:c=p.2:=e
    have e1:=name_of_addr ap (mem_of_lookup hc) (e▸mem_of_lookup (hm p hp))
    exact ho p hp (by rw [← e1,List.map_cons];exact .head _)
   exact closOf_apart cells ap r _ hn.2 ho' hm h
  exact closOf_apart cells ap r _ hn.2 ho' hm h
noncomputable def relab (nm names:List (Str × NameKind)):List (Str × NameKind):=names.map fun (n,k)=>if k == .free&&(nm.lookup n == some .cell) then (n,.cell) else (n,k)
theorem relab_is {env:Env} {nm:List (Str × NameKind)} (f:Fn env nm) (scope:Scope):(relabel scope env).names=relab nm scope.names:=by
 unfold relabel relab
 refine List.map_congr_left fun p hp=>?_
 obtain ⟨n,k⟩:=p
 show (if (k == NameKind.free&&env.scope.kind == .function&&env.kindOf n == some .cell)=true then _ else _)=_
 rw [f.kind,f.at]
 simp
theorem relab_local {nm:List (Str × NameKind)} {x:Str}:∀ {names:List (Str × NameKind)},names.lookup x=some .local→(relab nm names).lookup x=some .local
 | [],h=>by simp at h
 | (n,k)::r,h=>by
  unfold relab
  rw [List.map_cons]
  rw [List.lookup_cons] at h
  cases hx:x == n with
  | true=>
   rw [hx] at h
   cases h
   simp [List.lookup_cons,hx]
  | false=>
   rw [hx] at h
   have ih:=relab_local (nm:=nm) h
   unfold relab at ih
   show List.lookup x ((if (k == NameKind.free&&List.lookup n nm == some NameKind.cell)=true then (n,NameKind.cell) else (n,k))::_)=_
   by_cases hc:(k == NameKind.free&&List.lookup n nm == some NameKind.cell)=true
   ·rw [if_pos hc];simp only [List.lookup_cons,hx];exact ih
   rw [if_neg hc];simp only [List.lookup_cons,hx];exact ih
theorem relab_free {nm:List (Str × NameKind)} {x:Str} (hx:nm.lookup x=some .cell):∀ {names:List (Str × NameKind)},names.lookup x=some .free→(relab nm names).lookup x=some .cell
 | [],h=>by simp at h
 | (n,k)::r,h=>by
  unfold relab
  rw [List.map_cons]
  rw [List.lookup_cons] at h
  cases hn:x == n with
  | true=>
   rw [hn] at h
   cases h
   have e:x=n:=by simpa using hn
   subst e
   simp [List.lookup_cons,hx]
  | false=>
   rw [hn] at h
   have ih:=relab_free hx h
   unfold relab at ih
   show List.lookup x ((if (k == NameKind.free&&List.lookup n nm == some NameKind.cell)=true then (n,NameKind.cell) else (n,k))::_)=_
   by_cases hc:(k == NameKind.free&&List.lookup n nm == some NameKind.cell)=true
   ·rw [if_pos hc];simp only [List.lookup_cons,hn];exact ih
   rw [if_neg hc];simp only [List.lookup_cons,hn];exact ih
noncomputable abbrev Tst (S:Sys) (n:Nat) (env:Env) (ρ:List (Str × AV)) (σ:Sto) (ifs:List Expr) (b:Bool) (σ':Sto):Prop:=
 Do S n env ρ σ (forIn ifs true fun c r=>if r=true then do let ok ← isTrue c env (eval c env);pure (ForInStep.yield ok) else pure (ForInStep.yield r)) (fun _u _u v=>v=b) σ'
theorem tst_nil {n:Nat} {env:Env} {ρ:List (Str × AV)} {σ:Sto}:Tst S n env ρ σ [] true σ:=.mk fun V A s Q E rm q h=>wpAny_tests_nil (h _ s.heap s.toks (Grow.refl _ _) q rfl)
theorem tst_one {n:Nat} {env:Env} {ρ:List (Str × AV)} {σ σ':Sto} {c:Expr} {b:Bool} (h1:Tr S n env ρ σ (isTrue c env (eval c env)) b σ'):Tst S n env ρ σ [c] b σ':=.mk fun V A s Q E rm q h=>wpAny_tests_one (h1.run V A s Q E rm q h)
inductive CT (S:Sys) (n:Nat) (nm:List (Str × NameKind)) (x:Str) (elt:Expr) (ifs:List Expr) (ρ:List (Str × AV)):List PyData→Sto→List PyData→Sto→Prop
 | nil {σ}:CT S n nm x elt ifs ρ [] σ [] σ
 | keep {d ds y ys σ σ₁ σ₂ σ₃}:(∀ env,Fn' env nm→Tst S n env ((x,.d d)::ρ) σ ifs true σ₁)→(∀ env,Fn' env nm→Ev S n env ((x,.d d)::ρ) σ₁ (eval elt env) (.d y) σ₂)→CT S n nm x elt ifs ρ ds σ₂ ys σ₃ →
   CT S n nm x elt ifs ρ (d::ds) σ (y::ys) σ₃
 | drop {d ds ys σ σ₁ σ₂}:(∀ env,Fn' env nm→Tst S n env ((x,.d d)::ρ) σ ifs false σ₁)→CT S n nm x elt ifs ρ ds σ₁ ys σ₂→CT S n nm x elt ifs ρ (d::ds) σ ys σ₂
theorem CT.elim {n:Nat} {nm:List (Str × NameKind)} {x:Str} {elt:Expr} {ifs:List Expr} {ρ:List (Str × AV)} {d:PyData} {ds zs:List PyData} {σ τ:Sto} {P:Prop} (h:CT S n nm x elt ifs ρ (d::ds) σ zs τ)
  (h1:∀ σ₁,(∀ env,Fn' env nm→Tst S n env ((x,.d d)::ρ) σ ifs false σ₁)→CT S n nm x elt ifs ρ ds σ₁ zs τ→P)
  (h2:∀ y ys σ₁ σ₂,(∀ env,Fn' env nm→Tst S n env ((x,.d d)::ρ) σ ifs true σ₁)→(∀ env,Fn' env nm→Ev S n env ((x,.d d)::ρ) σ₁ (eval elt env) (.d y) σ₂)→CT S n nm x elt ifs ρ ds σ₂ ys τ→zs=y::ys→P):P:=by
 cases h with
 | drop a b=>exact h1 _ a b
 | keep a b c=>exact h2 _ _ _ _ a b c rfl
theorem CT.fin {n:Nat} {nm:List (Str × NameKind)} {x:Str} {elt:Expr} {ifs:List Expr} {ρ:List (Str × AV)} {zs:List PyData} {σ τ:Sto} (h:CT S n nm x elt ifs ρ [] σ zs τ):zs=[]∧σ=τ:=by
 cases h;exact ⟨rfl,rfl⟩
end
section
variable {S:Sys}
theorem View.sub {V:Addr→Prop} {env:Env} {h:Heap} {ρ ρ':List (Str × AV)} {σ:Sto} (q:View S V env h ρ σ) (s:∀ p∈ρ',p∈ρ):View S V env h ρ' σ:=
 ⟨q.base,q.vok,let ⟨m,hn,hv⟩:=q.fr;⟨m,hn,fun p hp=>hv p (s p hp)⟩,q.cl,q.apart,q.own,q.ownC,q.wd⟩
theorem bind_local {nm:List (Str × NameKind)} {env:Env} {ρ ρ₁:List (Str × AV)} {σ:Sto} {x:Str} {v:Value} {a:AV} {V:Addr→Prop} {A:Around} {s:Shared} {Q:Unit→Shared→Prop} {E:Value→Shared→Prop} (f:Fn env nm) (hl:env.kindOf x=some .local) (hu:Upd x a ρ ρ₁)
  (q:View S V env s.heap ρ σ) (r:VR V s.heap v a) (h:∀ h' tk,Grow (fun a=>a=env.locals) s.heap h'→View S V env h' ρ₁ σ→Q () { s with heap:=h',toks:=tk }) :
  wpAny (model S.prog S.w) A (storeName env x v) Q E s:=by
 obtain ⟨m,hn,hv⟩:=q.fr
 refine wpAny_storeName_local hl hn (fun h' hn' hs'=>?_) f.plain
 have g:Grow (fun a=>a=env.locals) s.heap h':=Grow.same hs' rfl
 have xV:∀ a,a=env.locals→V a:=fun a e=>e▸q.own.1
 refine h h' _ g ⟨q.base.grow q.vok g xV,q.vok.grow g (fun a e=>by rw [e];obtain ⟨o,_,_,e,_⟩:=hn';exact ⟨o,e⟩),⟨_,hn',fun p hp=>?_⟩,fun y d e=>?_,q.apart,q.own,q.ownC,S.grow q.wd g xV fun a e k=>q.own.2 (e▸k)⟩
 ·rcases hu p hp with rfl | ⟨hp',hne⟩
  exact ⟨v,r.grow g xV,.inl ⟨hl,by simp⟩⟩
  obtain ⟨u,ru,k⟩:=hv p hp'
  refine ⟨u,ru.grow g xV,k.imp (fun k=>⟨k.1,by simpa [hne] using k.2⟩) fun ⟨k1,d,k2,k3⟩=>⟨k1,d,k2,k3.sameBut hs' (q.ownC _ _ k2).2.2⟩⟩
 obtain ⟨u,k⟩:=q.cl y d e
 exact ⟨u,k.sameBut hs' (q.ownC _ _ e).2.2⟩
set_option tactic.hygienic true in
theorem relab_cell {nm:List (Str × NameKind)} {x:Str}:∀ {names:List (Str × NameKind)},(∀ y∈names,y.2≠.cell)→(relab nm names).lookup x=some .cell→(x,NameKind.free)∈names
 | [],_,h=>by simp [relab] at h
 | (n,k)::r,hc,h=>by
  have hk:k≠.cell:=hc (n,k) (.head _)
  unfold relab at h
  rw [List.map_cons,List.lookup_cons] at h
  have ih:=relab_cell (nm:=nm) (x:=x) (names:=r) fun y hy=>hc y (.tail _ hy)
  unfold relab at ih
  by_cases hf:(k == NameKind.free&&(nm.lookup n == some NameKind.cell))=true
  ·rw [if_pos hf] at h
   dsimp only at h
   split at h
   ·rename_i e
    have e:x=n:=by simpa using e
    rw [Bool.and_eq_true] at hf
    have:k=.free:=by simpa using hf.1
    rw [e,this];exact .head _
   exact .tail _ (ih h)
  rw [if_neg hf] at h
  dsimp only at h
  split at h
  exact absurd (Option.some.inj h) hk;exact .tail _ (ih h)
inductive CmpI (S:Sys) (n:Nat) (nm:List (Str × NameKind)) (x:Str) (elt:Expr) (ifs:List Expr) (ρc:List (Str × AV)) (items ys:List PyData) (τ:Sto) (V:Addr→Prop) (env:Env) (X:Addr→Prop) (D:Addr) (St:Nat→Heap→Prop) (h0:Heap) (s:Shared) (k:Nat) (s':Shared):Prop
 | mk (i:Nat) (σ:Sto) (yi yr:List PyData) (arr:Array Value) (h:Heap) (tk:Nat) (es:s' = { s with heap:=h,toks:=tk }) (q:View S V env h ρc σ) (st:St i h) (hD:h.PlainList D arr) (r:RdAll V h arr.toList yi) (ct:CT S n nm x elt ifs ρc (items.drop i) σ yr τ) (ey:ys=yi++yr)
   (g:Grow X h0 h) (le:i≤items.length) (sz:arr.size≤i) (ek:k=items.length+1 - i) (p:0<tk):CmpI S n nm x elt ifs ρc items ys τ V env X D St h0 s k s'
theorem size_step {arr:Array Value} {w:Value} {i:Nat} (h:arr.size≤i):(arr.push w).size≤i+1:=by rw [Array.size_push];exact Nat.succ_le_succ h
theorem comp_block {n:Nat} {env:Env} {ρ ρc:List (Str × AV)} {σ₁ σ₂:Sto} {nm:List (Str × NameKind)} {x:Str} {px pos:Pos} {iter elt:Expr} {ifs:List Expr} {scope:Scope} {a:AV} {items ys:List PyData} (f:Fn env nm)
  (hfree:∀ p∈scope.names,p.2=.free→∃ c,env.cells.lookup p.1=some c) (hnd:(scope.names.map (·.1)).Nodup) (hcell:∀ y∈scope.names,y.2≠.cell) (hkind:scope.kind=.function)
  (hx:scope.names.lookup x=some .local) (hρ:∀ p∈ρc,p∈ρ∧scope.names.lookup p.1=some .free∧nm.lookup p.1=some .cell∧p.1≠x) (hi:IterOf S a items)
  (ct:CT S n (relab nm scope.names) x elt ifs ρc items σ₁ ys σ₂) (hz:items.length≤1000000) {V:Addr→Prop} {A:Around} {s:Shared} {v:Value} (rm:Rn A n s.toks) (q0:View S V env s.heap ρ σ₁) (r0:VR V s.heap v a)
  {RR:Value→Addr→Result→Shared→Prop} {E:Value→Shared→Prop}
  (h:∀ D C its h' tk m,s.heap.get? D=none→s.heap.get? C=none→¬D=C→Grow S.R s.heap h'→View S (fun a=>V a∨a=C∨a=D) env h' ρ σ₂→h'.PlainList D its→RdAll (fun a=>V a∨a=C∨a=D) h' its.toList ys→h'.Ns C m→RR (.ref D) C (.ok .next) { s with heap:=h',toks:=tk }) :
  wpAny (model S.prog S.w) A (pyIter v) (fun it s₂=>wpAny (model S.prog S.w) A (newList []) (fun acc s₃=>wpAny (model S.prog S.w) A (newFunctionEnv scope env.globals (closOf env.cells scope.names []) [] env.qual none .none (some env)) (fun cenv s₄=>
   codeAny (model S.prog S.w) A (.compStart (.ListComp elt [⟨.Name x px,iter,ifs,0⟩] scope pos) 0 it acc { cenv with scope:=relabel scope env }) (RR acc cenv.locals) s₄) E s₃) E s₂) E s:=by
 refine wpAny_pos rm.pos (hi V A s v _ E rm.h q0.vok r0 fun I fp wr P St h1 tk1 g1 W hst hwr hwx hfp hP pz=>?_)
 have pz:0<tk1:=pz
 refine wpAny_newObj_type (wpAny_newFunctionEnv hcell (by intro y hy;simp at hy) (fun h2 hns hsb=>?_) hkind)
 dsimp only at g1 hwr hfp hP hns hsb ⊢
 generalize hD:h1.objs.size=D at hns hsb ⊢
 generalize hH2:h1.push { cls:=.type "list",dict:=none,data:=.seq ([]:List Value).toArray }=H2 at hns hsb ⊢
 generalize hC:H2.objs.size=C at hns hsb ⊢
 have eC:C=D+1:=by rw [← hC,← hH2,Heap.size_push,hD]
 have ltDC:D<C:=eC▸Nat.lt_succ_self D
 have noC:∀ b:Addr,b<D→¬b=C:=fun b k=>Nat.ne_of_lt (Nat.lt_trans k ltDC)
 have noD:∀ b:Addr,b<D→¬b=D:=fun b k=>Nat.ne_of_lt k
 have nDC:¬D=C:=Nat.ne_of_lt ltDC
 have nCD:¬C=D:=fun e=>nDC e.symm
 have lt1:∀ b o,h1.get? b=some o→b<D:=fun b o e=>hD▸Heap.lt_size e
 have k1:∀ b o,h1.get? b=some o→h2.get? b=some o:=fun b o e=>hsb.extBut b o (noC b (lt1 b o e)) (Heap.get?_push_of_some _ (hH2▸Heap.get?_push_of_some _ e))
 have g02:Grow (fun _u=>False) s.heap h2:=g1.trans (.of k1)
 have old:∀ b o,s.heap.get? b=some o→b<D:=fun b o e=>lt1 b o (g1 b o e fun k=>k)
 have Dn:s.heap.get? D=none:=by cases e:s.heap.get? D with | none=>rfl | some o=>exact absurd (old D o e) (Nat.lt_irrefl _)
 have Cn:s.heap.get? C=none:=by cases e:s.heap.get? C with | none=>rfl | some o=>exact absurd rfl (noC C (old C o e))
 have wrLt:∀ b∈wr,b<D:=fun b hb=>let ⟨o,e⟩:=(hwr b hb).2;lt1 b o e
 have fpLt:∀ b∈fp,b<D:=fun b hb=>(hfp b hb).elim (wrLt b) fun ⟨_,o,e⟩=>old b o e
 have Dx:h2.PlainList D #[]:=⟨_,hsb.extBut _ _ nDC (Heap.get?_push_of_some _ (by rw [← hH2,← hD];exact Heap.get?_push_size _ rfl))⟩
 have noV:∀ b,s.heap.get? b=none→¬V b:=fun b e k=>by obtain ⟨o,e'⟩:=(q0.vok.2 b k).2;rw [e] at e';cases e'
 have noR:∀ b,s.heap.get? b=none→¬S.R b:=fun b e k=>noV b e (q0.vok.1 b k)
 have fpR:∀ b∈fp,¬S.R b:=fun b hb=>(hfp b hb).elim (fun k=>noR b (hwr b k).1) fun k r=>k.1 (q0.vok.1 b r)
 let V':Addr→Prop:=fun b=>V b∨b=C∨b=D∨b∈wr
 have new:∀ b,V' b→V b∨(s.heap.get? b=none∧∃ o,h2.get? b=some o):=fun b k=>k.imp id fun k=>by
  rcases k with rfl | rfl | k
  ·obtain ⟨o,_,_,e,_⟩:=hns;exact ⟨Cn,o,e⟩
  ·obtain ⟨_,e⟩:=Dx;exact ⟨Dn,_,e⟩
  obtain ⟨o,e⟩:=(hwr b k).2;exact ⟨(hwr b k).1,o,k1 b o e⟩
 have qo:View S V' env h2 ρ σ₁:=q0.wide g02 (fun _u k=>.inl k) new
 have f':Fn (compEnvC scope (closOf env.cells scope.names []) C env) (relab nm scope.names):=⟨by simp [compEnvC,relabel,hkind],relab_is f scope,f.glob,f.blt⟩
 generalize hce:compEnvC scope (closOf env.cells scope.names []) C env=ce at f'
 have ceL:ce.locals=C:=by rw [← hce];rfl
 have ceC:ce.cells=closOf env.cells scope.names []:=by rw [← hce];rfl
 have cm:∀ y c,ce.cells.lookup y=some c→env.cells.lookup y=some c:=fun y c e=>closOf_mem _ _ [] (fun _u hp=>nomatch hp) _ (mem_of_lookup (ceC▸e))
 have cOld:∀ y c,env.cells.lookup y=some c→c<D:=fun y c e=>let ⟨v,o,e',_⟩:=q0.cl y c e;old c o e'
 have qc:View S V' ce h2 ρc σ₁:=by
  refine ⟨qo.base,qo.vok,⟨_,ceL▸hns,fun p hp=>?_⟩,fun y c e=>?_,ceC▸closOf_apart _ q0.apart _ [] hnd (fun _u hp=>nomatch hp) (fun _u hp=>nomatch hp) List.Pairwise.nil,⟨.inr (.inl ceL),by rw [ceL];exact noR C Cn⟩,fun y c e=>⟨.inl (q0.ownC y c (cm y c e)).1,(q0.ownC y c (cm y c e)).2.1,by rw [ceL];exact noC c (cOld y c (cm y c e))⟩,qo.wd⟩
  ·obtain ⟨hp1,hp2,hp3,hp4⟩:=hρ p hp
   obtain ⟨m,_,hv⟩:=qo.fr
   obtain ⟨u,ru,k⟩:=hv p hp1
   have hk:env.kindOf p.1=some .cell:=(f.at _).trans hp3
   rcases k with ⟨k1,_⟩ | ⟨_,c,k2,k3⟩
   ·rw [hk] at k1;cases k1
   exact ⟨u,ru,.inr ⟨(f'.at _).trans (relab_free hp3 hp2),c,ceC▸closOf_free _ k2 _ _ (mem_of_lookup hp2),k3⟩⟩
  exact qo.cl y c (cm y c e)
 have f'':Fn' ce (relab nm scope.names):=⟨f',fun y hy=>by
  have m:=relab_cell hcell hy
  obtain ⟨c,hc⟩:=hfree _ m rfl
  exact ⟨c,ceC▸closOf_free _ hc _ _ m⟩⟩
 have hlx:ce.kindOf x=some .local:=(f'.at x).trans (relab_local hx)
 have stp:∀ {i:Nat} {ha hb:Heap},St i ha→Grow (fun a=>S.R a∨a=C∨a=D) ha hb→St i hb:=fun {i ha hb} st g=>W.frame _ _ _ st fun b hb' o e=>g b o e fun k=>by
  rcases k with k | k | k
  exact fpR b hb' k;exact noC b (fpLt b hb') k;exact noD b (fpLt b hb') k
 have X':∀ b,(S.R b∨b=C∨b=D∨b∈wr)→V' b:=fun b k=>k.elim (fun k=>.inl (q0.vok.1 b k)) .inr
 have loop:∀ s₃:Shared,s₃ = { s with heap:=h2,toks:=tk1+([]:List (Str × Value)).length } →
   codeAny (model S.prog S.w) A (.compLoop (.ListComp elt [⟨.Name x px,iter,ifs,0⟩] scope pos) 0 (.ref I) (.ref D) ce) (RR (.ref D) C) s₃:=by
  rintro s₃ rfl
  refine codeAny_compLoop_tests (CmpI S n (relab nm scope.names) x elt ifs ρc items ys σ₂ V' ce (fun b=>S.R b∨b=C∨b=D∨b∈wr) D St h2 s) ?_ (items.length+1)
   (.mk 0 σ₁ [] ys #[] h2 _ rfl qc (stp (W.frame _ _ _ hst fun b hb o e=>k1 b o e) (Grow.refl _ _)) Dx .nil ct rfl (Grow.refl _ _) (Nat.zero_le _) (Nat.zero_le _) rfl pz)
  rintro k s' ⟨i,σi,yi,yr,arr,hh,tk,rfl,qi,hsti,hDi,hri,hcti,hys,gi,hle,hsz,rfl,pi⟩
  by_cases hlt:i<items.length
  ·refine wpAny_pos pi (W.item i _ _ _ hlt hsti fun u h₁ tk₁ hPu hst₁ hk₁ p₁=>?_)
   have p₁:0<tk₁:=p₁
   obtain ⟨d,hd,rd⟩:=hP i u hPu
   have hdrop:=drop_step hlt hd
   rw [hdrop] at hcti
   have gw:Grow (fun a=>a∈wr) hh h₁:=fun b ob e hn=>hk₁ b ob hn e
   have wrR:∀ b,b∈wr→¬S.R b:=fun b hb=>noR b (hwr b hb).1
   have q₁:View S V' ce h₁ ρc σi:=qi.grow gw (hwx _ _ hst₁) (fun _u k=>.inr (.inr (.inr k))) (fun k=>by have:=wrLt _ k;rw [ceL] at this;exact noC C this rfl)
    (fun y c e k=>by obtain ⟨v,o,e',_⟩:=q0.cl y c (cm y c e);rw [(hwr c k).1] at e';cases e') (S.grow qi.wd gw (fun _u k=>.inr (.inr (.inr k))) wrR)
   have g₁:Grow (fun b=>S.R b∨b=C∨b=D∨b∈wr) h2 h₁:=gi.trans (gw.mono fun _u k=>.inr (.inr (.inr k)))
   have r₁:RdAll V' h₁ arr.toList yi:=hri.grow gw fun _u k=>.inr (.inr (.inr k))
   have D₁:h₁.PlainList D arr:=by obtain ⟨m,e⟩:=hDi;exact ⟨m,hk₁ D _ (fun k=>noD D (wrLt _ k) rfl) e⟩
   have rd₁:VR V' h₁ u (.d d):=((rd.to fun b k=>(new b k).imp id fun k=>k.1).grow g02 (fun _u k=>k.elim)).grow g₁ X'
   refine wpAny_assign_Name (wpAny_pos p₁ (bind_local f' hlx (ρ₁:=(x,.d d)::ρc) (fun p hp=>?_) q₁ rd₁ fun h₂ tk₂ gl q₂ p₂=>?_))
   ·rcases List.mem_cons.mp hp with rfl | hp
    exact .inl rfl;exact .inr ⟨hp,(hρ p hp).2.2.2⟩
   rw [ceL] at gl
   have lV:∀ b,b=C→V' b:=fun b e=>.inr (.inl e)
   have g₂:Grow (fun b=>S.R b∨b=C∨b=D∨b∈wr) h2 h₂:=g₁.trans (gl.mono fun _u k=>.inr (.inl k))
   have r₂:RdAll V' h₂ arr.toList yi:=r₁.grow gl lV
   have D₂:h₂.PlainList D arr:=by obtain ⟨m,e⟩:=D₁;exact ⟨m,gl D _ e nDC⟩
   have st₂:St (i+1) h₂:=stp hst₁ (gl.mono fun _u k=>.inr (.inl k))
   have keepD:∀ {ha hb:Heap} {ar:Array Value},ha.PlainList D ar→Grow S.R ha hb→hb.PlainList D ar:=fun {ha hb ar} p g=>by obtain ⟨m,e⟩:=p;exact ⟨m,g D _ e (noR D Dn)⟩
   refine CT.elim hcti (fun σb ht hrest=>?_) (fun y yr' σa σb ht he hrest hyr=>?_)
   ·refine wpAny_pos p₂ ((ht ce f'').run V' A _ _ _ (rm.at p₂) q₂ fun ok h₃ tk₃ g₃ q₃ e p₃=>?_)
    have e:ok=false:=e
    rw [e,if_neg Bool.false_ne_true]
    exact ⟨items.length+1 - (i+1),turn_less hlt,.mk (i+1) _ yi yr arr h₃ tk₃ rfl (q₃.sub fun p hp=>.tail _ hp) (stp st₂ (g₃.mono fun _u k=>.inl k)) (keepD D₂ g₃) (r₂.grow g₃ (fun b k=>.inl (q0.vok.1 b k))) hrest hys (g₂.trans (g₃.mono fun _u k=>.inl k)) hlt (Nat.le_succ_of_le hsz) rfl p₃⟩
   refine wpAny_pos p₂ ((ht ce f'').run V' A _ _ _ (rm.at p₂) q₂ fun ok h₃ tk₃ g₃ q₃ e p₃=>?_)
   have e:ok=true:=e
   rw [e,if_pos rfl]
   refine wpAny_pos p₃ ((he ce f'').run V' A _ _ _ (rm.at p₃) q₃ fun w h₄ tk₄ g₄ q₄ rw₄ p₄=>?_)
   have g₃₄:=g₃.trans g₄
   have r₄:RdAll V' h₄ arr.toList yi:=r₂.grow g₃₄ (fun b k=>.inl (q0.vok.1 b k))
   refine wpAny_list_append_plain (keepD D₂ g₃₄) (fun h₅ hD₅ hs₅=>?_) (Nat.le_trans hsz (Nat.le_trans hle (Nat.le_trans hz (by decide))))
   have g₅:Grow (fun b=>b=D) h₄ h₅:=Grow.same hs₅ rfl
   have dV:∀ b,b=D→V' b:=fun b e=>.inr (.inr (.inl e))
   have q₅:View S V' ce h₅ ρc σb:=(q₄.sub (ρ':=ρc) fun p hp=>.tail _ hp).grow g₅ (fun b e=>by rw [e];obtain ⟨_,e⟩:=hD₅;exact ⟨_,e⟩) dV (fun e=>by rw [ceL] at e;exact nCD e) (fun y c e k=>noD c (cOld y c (cm y c e)) k) (S.grow q₄.wd g₅ dV fun b e=>e▸noR D Dn)
   refine ⟨items.length+1 - (i+1),turn_less hlt,.mk (i+1) _ (yi++[y]) yr' (arr.push w) h₅ tk₄ rfl q₅ (stp (stp st₂ (g₃₄.mono fun _u k=>.inl k)) (g₅.mono fun _u k=>.inr (.inr k))) hD₅ ?_ hrest (by rw [hys,hyr,List.append_assoc];rfl) ((g₂.trans (g₃₄.mono fun _u k=>.inl k)).trans (g₅.mono fun _u k=>.inr (.inr (.inl k)))) hlt (size_step hsz) rfl p₄⟩
   rw [Array.toList_push]
   exact (r₄.append (.cons rw₄ .nil)).grow g₅ dV
  have hin:i=items.length:=Nat.le_antisymm hle (Nat.le_of_not_lt hlt)
  rw [hin,List.drop_length] at hcti
  have hst':=hin▸hsti
  have hyy:ys=yi:=by rw [hys,hcti.fin.1,List.append_nil]
  have wdσ:S.Wd V' hh σ₂:=hcti.fin.2▸qi.wd
  refine W.done _ _ _ hst' fun h₁ tk₁ hk₁=>?_
  have gw:Grow (fun a=>a∈wr) hh h₁:=fun b ob e hn=>hk₁ b ob hn e
  have wV:∀ b,b∈wr→V' b:=fun b k=>.inr (.inr (.inr k))
  have qh:View S V' env hh ρ σ₂:=by
   refine qo.grow gi (fun b k=>?_) X' (fun k=>?_) (fun y c e k=>?_) wdσ
   exact (qi.vok.2 b (X' b k)).2
   ·rcases k with k | k | k | k
    exact q0.own.2 k
    ·obtain ⟨m,⟨o,es,ep,e,_⟩,_⟩:=q0.fr;exact noC _ (old _ o e) k
    ·obtain ⟨m,⟨o,es,ep,e,_⟩,_⟩:=q0.fr;exact noD _ (old _ o e) k
    obtain ⟨m,⟨o,es,ep,e,_⟩,_⟩:=q0.fr;rw [(hwr _ k).1] at e;cases e
   rcases k with k | k | k | k
   exact (q0.ownC y c e).2.1 k;exact noC c (cOld y c e) k;exact noD c (cOld y c e) k
   obtain ⟨v,o,e',_⟩:=q0.cl y c e;rw [(hwr c k).1] at e';cases e'
  have gAll:Grow S.R s.heap h₁:=by
   have g3:Grow (fun b=>S.R b∨b=C∨b=D∨b∈wr) s.heap h₁:=(g02.none.trans gi).trans (gw.mono fun _u k=>.inr (.inr (.inr k)))
   refine g3.drop fun b k=>?_
   rcases k with k | k | k | k
   exact .inl k;exact .inr (k▸Cn);exact .inr (k▸Dn);exact .inr (hwr b k).1
  have sub:∀ b,(V b∨b=C∨b=D)→V' b:=fun b k=>k.imp id fun k=>k.imp id .inl
  obtain ⟨mC,hnC,_⟩:=qi.fr
  rw [ceL] at hnC
  obtain ⟨m,e⟩:=hDi
  refine h D C arr h₁ tk₁ mC Dn Cn nDC gAll (qh.last gw sub wV (fun b k q=>q.elim (noV b (hwr b k).1) fun e=>e.elim (noC b (wrLt b k)) (noD b (wrLt b k))) (fun b k=>.inl (q0.vok.1 b k)) (.inl q0.own.1) fun y c e=>.inl (q0.ownC y c e).1) ⟨m,hk₁ D _ (fun k=>noD D (wrLt _ k) rfl) e⟩ (hyy▸(hri.grow gw wV).to fun b k=>.inl (sub b k)) (ns_grow hnC gw fun k=>noC C (wrLt _ k) rfl)
 subst hce
 exact codeAny_compStart_list (loop _ rfl) (W.self 0 _ _ _ (W.frame _ _ _ hst fun b _u o e=>k1 b o e) (loop _ rfl))
end
section
variable {S:Sys}
theorem Grow.trans_fresh {R X:Addr→Prop} {h h₁ h₂:Heap} (g:Grow R h h₁) (g':Grow X h₁ h₂) (hx:∀ b,X b→h.get? b=Option.none):Grow R h h₂:=
 ((g.mono (Y:=fun b=>R b∨X b) fun _u k=>.inl k).trans (g'.mono fun _u k=>.inr k)).drop fun b k=>k.imp id (hx b)
noncomputable def EvN (S:Sys) (n:Nat) (env:Env) (ρ:List (Str × AV)) (σ:Sto) (t:Sem Value) (xs:List PyData) (σ':Sto):Prop:=
 ∀ (V:Addr→Prop) (A:Around) (s:Shared) (Q:Value→Shared→Prop) (E:Value→Shared→Prop),Rn A n s.toks→View S V env s.heap ρ σ →
  (∀ a its h' tk,s.heap.get? a=none→Grow S.R s.heap h'→View S (fun b=>V b∨b=a) env h' ρ σ'→h'.PlainList a its→RdAll (fun b=>V b∨b=a) h' its.toList xs→Q (.ref a) { s with heap:=h',toks:=tk }) →
  wpAny (model S.prog S.w) A t Q E s
theorem View.lost {V:Addr→Prop} {env:Env} {h:Heap} {ρ:List (Str × AV)} {σ:Sto} {a:Addr} (q0:View S V env h ρ σ) (hn:h.get? a=none):¬V a:=fun k=>by
 obtain ⟨o,e⟩:=(q0.vok.2 a k).2
 rw [hn] at e;cases e
theorem View.less {V V':Addr→Prop} {env:Env} {h:Heap} {ρ:List (Str × AV)} {σ:Sto} (q:View S V' env h ρ σ) (sub:∀ a,V a→V' a) (hR:∀ a,S.R a→V a) (hL:V env.locals) (hC:∀ x c,env.cells.lookup x=some c→V c):View S V env h ρ σ:=
 q.last (Grow.refl (fun _u=>False) h) sub (fun _u k=>k.elim) (fun _u k=>k.elim) hR hL hC
section rules
variable {n:Nat} {env:Env} {ρ ρ₀ ρ₁ ρ₂ ρc:List (Str × AV)} {σ σ₁ σ₂:Sto} {nm:List (Str × NameKind)}
theorem ev_new {t:Sem Value} {xs:List PyData} (h1:EvN S n env ρ σ t xs σ₁):Ev S n env ρ σ t (.d (.list xs)) σ₁:=.mk fun V A s Q E rm q h=>
 h1 V A s Q E rm q fun a its h' tk hn g q1 hl r=>by
  obtain ⟨m,e⟩:=hl
  refine h _ h' tk g (q1.less (fun _u k=>.inl k) q.vok.1 q.own.1 fun x c e=>(q.ownC x c e).1) (.list (q.lost hn) e ⟨rfl,rfl,rfl⟩ rfl (r.to fun b k=>.inl (.inl k)))
theorem evn_list {es:List Expr} {pos:Pos} {ds:List PyData} (h1:EvD S n env ρ σ es pos ds σ₁) (hz:Nat.ble es.length 1000=true:=by rfl) :
  EvN S n env ρ σ (eval (.List es pos) env) ds σ₁:=fun V A s Q E rm q h=>
 wpAny_List (h1.1.run V A s _ E rm q fun vs h' tk g q1 r=>⟨by rw [r.length,List.length_map,h1.2];exact Nat.le_trans (Nat.le_of_ble_eq_true hz) (by decide),by
  have fr:h'.get? h'.objs.size=none:=none_size _ (Nat.le_refl _)
  have to:∀ b,(V b∨b=h'.objs.size)→V b∨(h'.get? b=none∧∃ o,(h'.push { cls:=.type "list",data:=.seq vs.toArray }).get? b=some o):=fun b k=>k.imp id fun k=>by subst k;exact ⟨fr,_,Heap.get?_push_size _ rfl⟩
  refine h h'.objs.size vs.toArray _ tk ?_ (g.trans (Grow.push _ _)) (q1.wide (Grow.push _ _) (fun _u k=>.inl k) to) ⟨_,Heap.get?_push_size _ rfl⟩ (RdAll.grow (Grow.push (X:=fun _u=>False) _ _) (fun _u k=>k.elim) ((by simpa using r.data:RdAll V h' vs.toArray.toList ds).to fun b k=>(to b k).imp id fun k=>k.1))
  cases e:s.heap.get? h'.objs.size with
  | none=>rfl
  | some o=>
   by_cases k:S.R h'.objs.size
   ·obtain ⟨o',e'⟩:=S.ex q1.wd _ k;rw [fr] at e';cases e'
   have:=g _ o e k;rw [fr] at this;cases this⟩)
theorem lookup_nodup {β:Type} {x:Str} {b:β}:∀ {l:List (Str × β)},(l.map (·.1)).Nodup→(x,b)∈l→l.lookup x=some b
 | (y,c)::r,hn,hm=>by
  rw [List.map_cons,List.nodup_cons] at hn
  rw [List.lookup_cons]
  rcases List.mem_cons.mp hm with e | hm'
  ·cases e;rw [beq_self_eq_true]
  have:(x == y)=false:=by
   rw [beq_eq_false_iff_ne];rintro rfl
   exact hn.1 (List.mem_map.mpr ⟨_,hm',rfl⟩)
  rw [this];exact lookup_nodup hn.2 hm'
structure CF (env:Env) (nm:List (Str × NameKind)) (scope:Scope) (x:Str) (ρ ρc:List (Str × AV)):Prop where
 free:∀ p∈scope.names,p.2=.free→∃ c,env.cells.lookup p.1=some c
 nd:(scope.names.map (·.1)).Nodup
 cell:∀ y∈scope.names,y.2≠.cell
 kind:scope.kind=.function
 own:scope.names.lookup x=some .local
 sub:∀ p∈ρc,p∈ρ∧scope.names.lookup p.1=some .free∧nm.lookup p.1=some .cell∧p.1≠x
theorem evn_comp {x:Str} {px pos:Pos} {iter elt:Expr} {ifs:List Expr} {scope:Scope} {a:AV} {items ys:List PyData} (f:Fn env nm) (cf:CF env nm scope x ρ ρc) (h1:Ev S n env ρ σ (eval iter env) a σ₁) (hi:IterOf S a items)
  (ct:CT S n (relab nm scope.names) x elt ifs ρc items σ₁ ys σ₂) (hz:items.length≤1000000) (hs:∀ x,foldedSetIterable iter env x=pure x:=by intro _;rfl) :
  EvN S n env ρ σ (eval (.ListComp elt [⟨.Name x px,iter,ifs,0⟩] scope pos) env) ys σ₂:=by
 intro V A s Q E rm q h
 rw [eval_ListComp]
 refine wpAny_comprehension_free (use:=none) rfl hs (closureFor_is cf.free) cf.kind (fun y hy hl=>lookup_nodup cf.nd (hl▸hy)) (wpAny_pos rm.pos (h1.run V A s _ E rm q fun v h' tk g q1 r p1=>?_))
 refine comp_block (RR:=fun acc C=>compPost (model S.prog S.w) A E none Q acc C) f cf.free cf.nd cf.cell cf.kind cf.own cf.sub hi ct hz (rm.at p1) q1 r ?_
 intro D C its h2 tk2 m hD hC hDC g2 q2 hl ra hn
 refine ⟨m,hn,fun h3 hs3=>?_⟩
 have gone:∀ b,h'.get? b=none→s.heap.get? b=none:=fun b hb=>by
  cases e:s.heap.get? b with
  | none=>rfl
  | some o=>
   by_cases k:S.R b
   ·obtain ⟨o',e'⟩:=S.ex q1.wd _ k;rw [hb] at e';cases e'
   have:=g _ o e k;rw [hb] at this;cases this
 have g3:Grow (fun b=>b=C) h2 h3:=Grow.same hs3 rfl
 have nC:¬V C:=q1.lost hC
 refine h D its h3 tk2 (gone _ hD) ((g.trans g2).trans_fresh g3 (fun b e=>e▸gone _ hC)) (q2.last (V:=fun b=>V b∨b=D) g3 (fun b k=>k.imp id .inr) (fun b e=>.inr (.inl e)) (fun b e k=>?_) (fun b k=>.inl (q.vok.1 b k)) (.inl q.own.1) fun y c e=>.inl (q.ownC y c e).1) (hl.at fun o e=>g3 _ _ e hDC) ((ra.grow g3 fun b e=>.inr (.inl e)).to fun b k=>.inl (k.imp id .inr))
 subst e
 exact k.elim nC fun e=>hDC e.symm
end rules
end
section

inductive KeyD:Nat→PyData→Prop
 | int {n} (i:Int):KeyD n (.int i)
 | str {n} (x:Str):PyData.strOk x=true→KeyD n (.str x)
 | tup {n} {xs:List PyData}:(∀ x∈xs,KeyD n x)→KeyD (n+1) (.tuple xs)
mutual
noncomputable def hashD (w:World):PyData→Int
 | .int i=>hashInt i
 | .str x=>hashStr w x
 | .tuple xs=>reduceHash (Builtin.Tuple.tupleHashOf (hashAllD w xs))
 | _=>0
noncomputable def hashAllD (w:World):List PyData→List Int
 | []=>[]
 | x::xs=>hashD w x::hashAllD w xs
end
theorem KeyD.eqv {n:Nat} {a:PyData} (ha:KeyD n a):∀ {m:Nat} {b:PyData},KeyD m b→(PyData.eqv a b=true↔a=b):=by
 induction ha with
 | int i=>
  intro m b hb
  cases hb <;> simp [PyData.eqv]
 | str x hx=>
  intro m b hb
  cases hb <;> simp [PyData.eqv]
 | @tup n xs hx ih=>
  intro m b hb
  cases hb with
  | int=>simp [PyData.eqv]
  | str=>simp [PyData.eqv]
  | @tup m ys hy=>
   have all:∀ (xs ys:List PyData),(∀ x∈xs,∀ {m:Nat} {b:PyData},KeyD m b→(PyData.eqv x b=true↔x=b))→(∀ y∈ys,KeyD m y)→(PyData.eqvAll xs ys=true↔xs=ys):=by
    intro xs
    induction xs with
    | nil=>intro ys _ _;cases ys <;> simp [PyData.eqvAll]
    | cons x xs ihx=>
     intro ys h1 h2
     cases ys with
     | nil=>simp [PyData.eqvAll]
     | cons y ys=>
      rw [PyData.eqvAll,Bool.and_eq_true,h1 x (.head _) (h2 y (.head _)),ihx ys (fun x hx=>h1 x (.tail _ hx)) (fun y hy=>h2 y (.tail _ hy)),List.cons.injEq]
   rw [PyData.eqv,all xs ys (fun x hx=>ih x hx) hy,PyData.tuple.injEq]
theorem KeyD.lay {n:Nat} {a:PyData} (ha:KeyD n a):a.canLay0=true∧a.depth≤n+1:=by
 induction ha with
 | int i=>exact ⟨rfl,by simp [PyData.depth]⟩
 | str x hx=>exact ⟨by simpa [PyData.canLay0] using hx,by simp [PyData.depth]⟩
 | @tup n xs hx ih=>
  have all:∀ (xs:List PyData),(∀ x∈xs,x.canLay0=true∧x.depth≤n+1)→PyData.canLayAll0 xs=true∧PyData.depthAll xs≤n+1:=by
   intro xs
   induction xs with
   | nil=>intro _;exact ⟨rfl,by simp [PyData.depthAll]⟩
   | cons x xs ihx=>
    intro h
    obtain ⟨a1,a2⟩:=h x (.head _)
    obtain ⟨b1,b2⟩:=ihx fun x hx=>h x (.tail _ hx)
    exact ⟨by simp [PyData.canLayAll0,a1,b1],by simp only [PyData.depthAll];walk_at "o"⟩
  obtain ⟨a1,a2⟩:=all xs ih
  exact ⟨by simpa [PyData.canLay0] using a1,by simp only [PyData.depth];walk_at "o"⟩
section
variable {prog:Program} {w:World} {A:Around} {E:Value→Shared→Prop} {V:Addr→Prop}
theorem quiet_key {n:Nat} {d:PyData} (hd:KeyD n d):∀ {s:Shared} {v:Value} {m:Nat} {Q:Bool→Shared→Prop},n≤m→Rd V s.heap v d→Q true s→wpAny (model prog w) A (eqIsQuiet m v) Q E s:=by
 induction hd with
 | int i=>intro s v m Q hm r h;obtain ⟨t,rfl⟩:=Rd.ofInt r;rw [eqIsQuiet_byValue _ rfl];exact wpAny_pure h
 | str x hx=>intro s v m Q hm r h;obtain ⟨t,rfl⟩:=Rd.ofStr r;rw [eqIsQuiet_byValue _ rfl];exact wpAny_pure h
 | @tup n xs hx ih=>
  intro s v m Q hm r h
  cases m with
  | zero=>walk_at "o"
  | succ m=>
  refine Rd.ofTuple r fun a o vs k na e c dd ra ev=>?_
  subst ev
  have hT:s.TypeIs (.ref a) "tuple":=⟨o,e,c.1⟩
  unfold eqIsQuiet
  refine wpAny_bind (wpAny_specialOf hT F.slot_tuple_eq.lookup ?_)
  show wpAny _ _ (isInstance (.ref a) (.type "tuple") >>= _) _ _ s
  refine wpAny_bind (wpAny_isInstance hT isSubtype_tuple_tuple ?_)
  simp only [Bool.not_true,Bool.false_eq_true,if_false]
  refine wpAny_bind (wpAny_seqItems e dd ?_)
  refine wpAny_bind ?_
  show wpAny _ _ (forIn vs _ _) _ _ s
  rw [← Array.forIn_toList]
  refine wpAny_forIn_list _ (fun rest r s'=>r.1=none∧s'=s∧∃ ds,RdAll V s.heap rest ds∧∀ d∈ds,d∈xs) _ ?_ ?_ _ _ ⟨rfl,rfl,xs,ra,fun _u k=>k⟩
  ·rintro v rest r s' ⟨hr,rfl,ds,hrd,hin⟩
   refine hrd.uncons fun d ds r1 r2 ed=>?_
   subst ed
   refine wpAny_bind (ih d (hin d (.head _)) (by walk_at "o") r1 ?_)
   simp only [Bool.not_true,Bool.false_eq_true,if_false]
   exact wpAny_pure ⟨rfl,rfl,ds,r2,fun d k=>hin d (.tail _ k)⟩
  rintro ⟨r1,r2⟩ s' ⟨hr,rfl,_⟩
  simp only at hr
  subst hr
  exact wpAny_pure h
set_option tactic.hygienic true in
theorem hash_key {n:Nat} {d:PyData} (hd:KeyD n d):∀ {A:Around} {E:Value→Shared→Prop} {s:Shared} {v:Value} {Q:Int→Shared→Prop},A.units+n<cLine→Rd V s.heap v d→(∀ tk,Q (hashD w d) { s with toks:=tk })→wpAny (model prog w) A (pyHash v) Q E s:=by
 induction hd with
 | int i=>intro A E s v Q hu r h;obtain ⟨t,rfl⟩:=Rd.ofInt r;exact (intKind prog w).pyHash (k:=i) (by simp [intKind,Value.isInt]) (h _)
 | str x hx=>intro A E s v Q hu r h;obtain ⟨t,rfl⟩:=Rd.ofStr r;exact (PySem.strKind prog w).pyHash (k:=x) (by simp [PySem.strKind,Value.isStrOf]) (h _)
 | @tup n xs hx ih=>
  intro A E s v Q hu r h
  refine Rd.ofTuple r fun a o vs k na e c dd ra ev=>?_
  subst ev
  have hT:s.TypeIs (.ref a) "tuple":=⟨o,e,c.1⟩
  unfold pyHash
  first | unfold pyHashByItsType | skip
  first | refine wpAny_bind (wpAny_cRoomFor_or (.inr (by walk_at "o")) ?_) | skip
  refine wpAny_bind (wpAny_specialOf hT F.slot_tuple_hash.lookup ?_)
  show wpAny _ _ (if (some (Value.builtin "tuple.__hash__") == some Value.none)=true then _ else _) Q E s
  rw [if_neg (by rw [beq_builtin_none];exact Bool.false_ne_true)]
  refine wpAny_bind (wpAny_specialOf hT F.slot_tuple_hash.lookup ?_)
  show wpAny _ _ (callSpecialIfBoundUnlessNone? (.ref a) "__hash__" _ >>= _) Q E s
  refine wpAny_bind (wpAny_callSpecialIfBoundUnlessNone?_slot hT F.slot_tuple_hash (wpAny_call_entry F.slot_tuple_hash hT F.entry_tuple_hash ?_ (F.args_tuple_hash_1 _)))
  show wpAny _ _ (Builtin.Tuple.tupleItemsOf (.ref a) >>= _) _ _ s
  refine wpAny_bind (wpAny_tupleItemsOf e dd ?_)
  refine wpAny_bind ?_
  rw [← Array.forIn_toList]
  have app:∀ (a b:List PyData),hashAllD w (a++b)=hashAllD w a++hashAllD w b:=fun a b=>by
   induction a with
   | nil=>rfl
   | cons x a ih=>exact congrArg (_::·) ih
  refine wpAny_forIn_list _
   (fun rest (b:Array Int) s'=>∃ done left tk,xs=done++left∧RdAll V s.heap rest left∧b.toList=hashAllD w done∧s' = { s with toks:=tk })
   _ ?_ ?_ _ _ ⟨[],xs,s.toks,rfl,ra,rfl,rfl⟩
  ·rintro x rest b s' ⟨done,left,tk,hxs,hl,hb,rfl⟩
   cases hl with
   | @cons _ _ d ds r1 r2=>
   refine wpAny_bind (ih d (by rw [hxs];simp) (by show A.units+1+n<cLine;walk_at "o") r1 fun tk'=>?_)
   have fin:∃ done left tk,xs=done++left∧RdAll V s.heap rest left∧(b.push (hashD w d)).toList=hashAllD w done∧({ s with toks:=tk' }:Shared) = { s with toks:=tk }:=
    ⟨done++[d],ds,tk',by rw [hxs];simp,r2,by rw [Array.toList_push,hb,app];rfl,rfl⟩
   first
    | exact wpAny_pure fin
    | exact wpAny_bind (wpAny_pure (wpAny_pure fin))
  rintro b s' ⟨done,left,tk,hxs,hl,hb,rfl⟩
  cases hl
  rw [List.append_nil] at hxs
  subst hxs
  show wpAny _ _ (retInt (Builtin.Tuple.tupleHashOf b.toList)) _ _ _
  rw [hb]
  refine wpAny_ret_mkInt ?_
  show wpAny _ _ (if (decide (-(2:Int) ^ 63≤Builtin.Tuple.tupleHashOf (hashAllD w xs))&&decide (Builtin.Tuple.tupleHashOf (hashAllD w xs)<2 ^ 63))=true then _ else _) Q E _
  rw [hashD,reduceHash] at h
  split
  ·rename_i hr
   rw [if_pos hr] at h
   exact wpAny_pure (h _)
  rename_i hr
  rw [if_neg hr] at h
  exact wpAny_bind (wpAny_rule (wpAny_pure (h _)))
theorem eq_key {n m:Nat} {a b:PyData} (ha:KeyD n a) (hb:KeyD m b) {s:Shared} {u v:Value} {Q:Bool→Shared→Prop} (hu:A.units+n+1<cLine) (ra:Rd V s.heap u a) (rb:Rd V s.heap v b) (h:Q (PyData.eqv a b) s) :
  wpAny (model prog w) A (eqBool u v) Q E s:=by
 obtain ⟨_,qa⟩:=Rd.reads ha.lay.1 ra
 obtain ⟨_,qb⟩:=Rd.reads hb.lay.1 rb
 exact SeqAt.eqAt_reads a b A s u v _ _ qa qb ha.lay.1 hb.lay.1 (by have:=ha.lay.2;walk_at "o") prog w E Q h
end
end
section

theorem Rd.inj {V:Addr→Prop} {h:Heap} {v:Value} {d d':PyData} (k:d.canLay0=true) (k':d'.canLay0=true) (r:Rd V h v d) (r':Rd V h v d'):d=d':=by
 obtain ⟨_,a⟩:=Rd.reads k r
 obtain ⟨_,a'⟩:=Rd.reads k' r'
 exact (PyProof.Rows.reads_det (fun _u _u e _u=>e) a a').1.symm
inductive EntAll (V:Addr→Prop) (h:Heap) (w:World):List DictEntry→List (PyData × AV)→Prop
 | nil:EntAll V h w [] []
 | cons {e:DictEntry} {es:List DictEntry} {k:PyData} {v:AV} {kvs:List (PyData × AV)}:Rd V h e.key k→e.hash=hashD w k→VR V h e.val v→EntAll V h w es kvs→EntAll V h w (e::es) ((k,v)::kvs)
noncomputable def DAt (w:World) (V:Addr→Prop) (h:Heap) (a:Addr) (kvs:List (PyData × AV)):Prop:=
 ∃ es ep,h.get? a=some { cls:=.type "dict",data:=.dict es ep }∧EntAll V h w es.toList kvs
structure KOk (kvs:List (PyData × AV)):Prop where
 key:∀ p∈kvs,KeyD 6 p.1
 nd:(kvs.map (·.1)).Nodup
noncomputable def keyAt (kvs:List (PyData × AV)) (k:PyData):Option Nat:=kvs.findIdx? fun p=>PyData.eqv p.1 k
theorem EntAll.grow {V X:Addr→Prop} {h h':Heap} {w:World} {es:List DictEntry} {kvs:List (PyData × AV)} (r:EntAll V h w es kvs) (g:Grow X h h') (xv:∀ a,X a→V a):EntAll V h' w es kvs:=by
 induction r with
 | nil=>exact .nil
 | cons a b c _ ih=>exact .cons (Rd.grow g xv a) b (c.grow g xv) ih
theorem EntAll.to {V V':Addr→Prop} {h:Heap} {w:World} {es:List DictEntry} {kvs:List (PyData × AV)} (r:EntAll V h w es kvs) (vv:∀ a,V' a→V a∨h.get? a=none):EntAll V' h w es kvs:=by
 induction r with
 | nil=>exact .nil
 | cons a b c _ ih=>exact .cons (Rd.to vv a) b (c.to vv) ih
theorem EntAll.length {V:Addr→Prop} {h:Heap} {w:World} {es:List DictEntry} {kvs:List (PyData × AV)} (r:EntAll V h w es kvs):es.length=kvs.length:=by
 induction r with
 | nil=>rfl
 | cons _ _ _ _ ih=>rw [List.length_cons,List.length_cons,ih]
theorem EntAll.at {V:Addr→Prop} {h:Heap} {w:World} {es:List DictEntry} {kvs:List (PyData × AV)} (r:EntAll V h w es kvs):∀ {i:Nat} {e:DictEntry},es[i]?=some e→∃ k v,kvs[i]?=some (k,v)∧Rd V h e.key k∧e.hash=hashD w k∧VR V h e.val v:=by
 induction r with
 | nil=>intro i e h;simp at h
 | cons a b c _ ih=>
  intro i e h
  cases i with
  | zero=>simp at h;subst h;exact ⟨_,_,rfl,a,b,c⟩
  | succ i=>exact ih (by simpa using h)
theorem EntAll.back {V:Addr→Prop} {h:Heap} {w:World} {es:List DictEntry} {kvs:List (PyData × AV)} (r:EntAll V h w es kvs):∀ {i:Nat} {p:PyData × AV},kvs[i]?=some p→∃ e,es[i]?=some e∧Rd V h e.key p.1∧e.hash=hashD w p.1∧VR V h e.val p.2:=by
 induction r with
 | nil=>intro i e h;simp at h
 | cons a b c _ ih=>
  intro i e h
  cases i with
  | zero=>simp at h;subst h;exact ⟨_,rfl,a,b,c⟩
  | succ i=>exact ih (by simpa using h)
section
variable {prog:Program} {w:World} {A:Around} {E:Value→Shared→Prop} {V:Addr→Prop} {s:Shared} {kvs:List (PyData × AV)} {k:PyData}
theorem ite_w {α:Type} {c:Prop} [Decidable c] {t e:Sem α} {M:Model} {Q:α→Shared→Prop} (ht:c→wpAny M A t Q E s) (he:¬c→wpAny M A e Q E s):wpAny M A (if c then t else e) Q E s:=by
 by_cases h:c
 ·rw [if_pos h];exact ht h
 rw [if_neg h];exact he h
theorem ite_tell {c:Prop} [Decidable c] {M:Model} {t:Sem Bool} {α:Type} {f:Bool→Sem α} {Q:α→Shared→Prop} (tell:∀ {Q:Bool→Shared→Prop},Q false s→wpAny M A t Q E s) (h:wpAny M A (f false) Q E s):wpAny M A (if c then pure false >>= f else t >>= f) Q E s:=
 ite_w (fun _u=>wpAny_bind (wpAny_pure h)) fun _u=>wpAny_bind (tell h)
theorem find_of (hk:KOk kvs) (h6:KeyD 6 k) {i:Nat} {p:PyData × AV} (hi:kvs[i]?=some p) (he:PyData.eqv p.1 k=true):keyAt kvs k=some i:=by
 unfold keyAt
 obtain ⟨hlt,hp⟩:=List.getElem?_eq_some_iff.mp hi
 rw [List.findIdx?_eq_some_iff_getElem]
 refine ⟨hlt,by rw [hp];exact he,fun j hj=>?_⟩
 have hjl:j<kvs.length:=Nat.lt_trans hj hlt
 intro e'
 have a1:=((hk.key _ (List.getElem_mem hjl)).eqv h6).mp (by simpa using e')
 have a2:=((hk.key _ (List.mem_of_getElem? hi)).eqv h6).mp he
 have:(kvs.map (·.1))[j]'(by simpa using hjl)=(kvs.map (·.1))[i]'(by simpa using hlt):=by
  rw [List.getElem_map,List.getElem_map,a1,hp,a2]
 exact absurd ((List.getElem_inj hk.nd).mp this) (Nat.ne_of_lt hj)
theorem find_at {i:Nat} (h:keyAt kvs k=some i):∃ p,kvs[i]?=some p∧PyData.eqv p.1 k=true:=by
 obtain ⟨hlt,hp,_⟩:=List.findIdx?_eq_some_iff_getElem.mp h
 exact ⟨_,List.getElem?_eq_getElem hlt,hp⟩
theorem str_idx {x:Str} {h:Heap} {es:List DictEntry} (hr:EntAll V h w es kvs) (hk:∀ p∈kvs,KeyD 6 p.1) (hall:(es.all fun e=>isExactStrKey e.key)=true):es.findIdx? (fun e=>e.key.isStr x)=kvs.findIdx? fun p=>PyData.eqv p.1 (.str x):=by
 induction hr with
 | nil=>rfl
 | @cons e es' k' v kvs' a b c r ih=>
  rw [List.all_cons,Bool.and_eq_true] at hall
  rw [List.findIdx?_cons,List.findIdx?_cons,ih (fun p hp=>hk p (.tail _ hp)) hall.2]
  have:e.key.isStr x=PyData.eqv k' (.str x):=by
   generalize e.key=ek at a hall
   cases a with
   | str y t=>simp [Value.isStr,PyData.eqv]
   | _=>simp [isExactStrKey] at hall
  rw [this]
noncomputable abbrev plc (es:Array DictEntry) (h:Int):List Nat:=placesWithHash es.size (fun i=>es[i]?.map (·.hash)) h
theorem ent_at {h:Heap} {es:Array DictEntry} (hr:EntAll V h w es.toList kvs) {i:Nat} {e:DictEntry} (q:es[i]?=some e):∃ k' v,kvs[i]?=some (k',v)∧Rd V h e.key k'∧e.hash=hashD w k'∧VR V h e.val v:=hr.at (by rw [Array.getElem?_toList];exact q)
theorem ent_back {h:Heap} {es:Array DictEntry} (hr:EntAll V h w es.toList kvs) {i:Nat} {p:PyData × AV} (q:kvs[i]?=some p):∃ e,es[i]?=some e∧Rd V h e.key p.1∧e.hash=hashD w p.1∧VR V h e.val p.2:=by
 obtain ⟨e,a,b⟩:=hr.back q
 exact ⟨e,by rw [← Array.getElem?_toList];exact a,b⟩
theorem plc_nodup {es:Array DictEntry} {h:Int}:(plc es h).Nodup:=List.nodup_range.filter _
theorem plc_hash {es:Array DictEntry} {h:Int} {i:Nat} (hi:i∈plc es h):∃ e,es[i]?=some e∧(e.hash == h)=true:=by
 obtain ⟨a,b⟩:=List.mem_filter.mp hi
 have b:(Option.map (fun x=>x.hash) es[i]? == some h)=true:=b
 cases e:es[i]? with
 | none=>rw [e] at b;simp at b
 | some x=>rw [e] at b;exact ⟨x,rfl,by simpa using b⟩
theorem plc_in {h:Heap} {es:Array DictEntry} (hr:EntAll V h w es.toList kvs) (hk:KOk kvs) (h6:KeyD 6 k) {j:Nat} (hj:keyAt kvs k=some j):j∈plc es (hashD w k):=by
 obtain ⟨p,a,e'⟩:=find_at hj
 obtain ⟨e,he,_,hh,_⟩:=ent_back hr a
 have pk:p.1=k:=((hk.key p (List.mem_of_getElem? a)).eqv h6).mp e'
 refine List.mem_filter.mpr ⟨List.mem_range.mpr (Array.getElem?_eq_some_iff.mp he).1,?_⟩
 show (Option.map (fun x=>x.hash) es[j]? == some (hashD w k))=true
 rw [he]
 show (some e.hash == some (hashD w k))=true
 rw [hh,pk];exact beq_self_eq_true _
theorem hit_not {k':PyData} {i j:Nat} {v:AV} (a:kvs[i]?=some (k',v)) (hkk:PyData.eqv k' k=false) (hj:keyAt kvs k=some j):j≠i:=fun e=>by
 subst e
 obtain ⟨p,a',e'⟩:=find_at hj
 rw [a] at a';cases a'
 rw [hkk] at e';cases e'
theorem dict_plain {d:Addr} {es:Array DictEntry} {ep:Nat} {kv:Value} {o:Obj} {Q:Option Nat→Shared→Prop} (hu:A.units+16<cLine) (ho:s.heap.get? d=some o) (hd:o.data=.dict es ep) (hr:EntAll V s.heap w es.toList kvs)
  (hk:KOk kvs) (h6:KeyD 6 k) (rk:Rd V s.heap kv k) (h:Q (keyAt kvs k) s):wpAny (model prog w) A (dictWalkPlain d kv (hashD w k) es (plc es (hashD w k))) Q E s:=by
 unfold dictWalkPlain
 refine wpAny_bind ?_
 refine wpAny_forIn_list _ (fun rest (r:Option (Option Nat) × PUnit) s'=>s'=s∧r.1=none∧(∀ i∈rest,∃ e,es[i]?=some e∧(e.hash == hashD w k)=true)∧∀ j,keyAt kvs k=some j→j∈rest) _ ?_ ?_ _ _ ⟨rfl,rfl,fun i hi=>plc_hash hi,fun j hj=>plc_in hr hk h6 hj⟩
 ·rintro i rest ⟨r1,r2⟩ s' ⟨rfl,hr1,q2,q3⟩
  obtain ⟨e,he,hh⟩:=q2 i (.head _)
  obtain ⟨k',v,a,b,c,_⟩:=ent_at hr he
  rw [he]
  dsimp only
  rw [if_pos hh]
  refine wpAny_bind (wpAny_dictEpoch ho hd (wpAny_bind (eq_key (hk.key _ (List.mem_of_getElem? a)) h6 (by walk_at "o") b rk (wpAny_bind (wpAny_dictEpoch ho hd ?_)))))
  refine ite_w (fun c=>absurd c (by rw [bne_self_eq_false];decide)) fun _u=>?_
  dsimp only
  cases hkk:PyData.eqv k' k with
  | true=>
   refine wpAny_bind (wpAny_rule (wpAny_pure (wpAny_pure ?_)))
   rw [find_of hk h6 a hkk] at h
   exact h
  | false=>
   have fin:∀ j,keyAt kvs k=some j→j∈rest:=fun j hj=>(List.mem_cons.mp (q3 j hj)).resolve_left (hit_not a hkk hj)
   first
    | exact wpAny_bind (wpAny_rule (wpAny_pure ⟨rfl,by first | exact hr1 | rfl,fun i hi=>q2 i (.tail _ hi),fin⟩))
    | exact wpAny_bind (wpAny_rule (wpAny_bind (wpAny_pure (wpAny_pure ⟨rfl,by first | exact hr1 | rfl,fun i hi=>q2 i (.tail _ hi),fin⟩))))
 rintro ⟨r1,r2⟩ s' ⟨rfl,hr1,q2,q3⟩
 have hr1:r1=none:=hr1
 subst hr1
 refine wpAny_pure ?_
 cases hj:keyAt kvs k with
 | none=>rw [hj] at h;exact h
 | some j=>exact absurd (q3 j hj) List.not_mem_nil
theorem dict_tell {es:Array DictEntry} {kv:Value} (hr:EntAll V s.heap w es.toList kvs) (hk:KOk kvs) (h6:KeyD 6 k) (rk:Rd V s.heap kv k) {Q:Bool→Shared→Prop} (hQ:Q false s) :
  wpAny (model prog w) A (tableMayTell kv ((plc es (hashD w k)).filterMap fun i=>es[i]?.map (·.key))) Q E s:=by
 have all:∀ v∈(plc es (hashD w k)).filterMap (fun i=>es[i]?.map (·.key)),∃ k',KeyD 6 k'∧Rd V s.heap v k':=fun v hv=>by
  obtain ⟨i,_,hi⟩:=List.mem_filterMap.mp hv
  obtain ⟨e,he,rfl⟩:=Option.map_eq_some_iff.mp hi
  obtain ⟨k',v',a,b,_⟩:=ent_at hr he
  exact ⟨k',hk.key _ (List.mem_of_getElem? a),b⟩
 generalize (plc es (hashD w k)).filterMap (fun i=>es[i]?.map (·.key))=l at all
 unfold tableMayTell
 split
 exact wpAny_pure hQ
 refine wpAny_bind (quiet_key h6 (by decide) rk ?_)
 refine ite_w (fun c=>absurd c (by decide)) fun _u=>?_
 refine wpAny_bind ?_
 refine wpAny_forIn_list _ (fun rest r s'=>s'=s∧r=(none,())∧∀ v∈rest,∃ k',KeyD 6 k'∧Rd V s.heap v k') _ ?_ ?_ _ _ ⟨rfl,rfl,all⟩
 ·rintro x rest r s' ⟨rfl,rfl,hr⟩
  obtain ⟨k',h1,h2⟩:=hr x (.head _)
  refine wpAny_bind (quiet_key h1 (by decide) h2 ?_)
  refine ite_w (fun c=>absurd c (by decide)) fun _u=>?_
  exact wpAny_pure ⟨rfl,rfl,fun v hv=>hr v (.tail _ hv)⟩
 rintro r s' ⟨rfl,rfl,_⟩
 exact wpAny_pure hQ
theorem dict_strOnly {d:Addr} {es:Array DictEntry} {ep:Nat} {o:Obj} {Q:Option Nat→Shared→Prop} {x:Str} {t:Tok} (hu:A.units+16<cLine) (ho:s.heap.get? d=some o) (hd:o.data=.dict es ep) (hr:EntAll V s.heap w es.toList kvs)
  (hk:KOk kvs) (h6:KeyD 6 (.str x)) (h:Q (keyAt kvs (.str x)) s) (hall:(es.all fun e=>isExactStrKey e.key)=true):wpAny (model prog w) A (foundByValue d (.str x t) es x) Q E s:=by
 have hidx:es.findIdx? (fun e=>e.key.isStr x)=keyAt kvs (.str x):=by
  have e1:es.findIdx? (fun e=>e.key.isStr x)=es.toList.findIdx? (fun e=>e.key.isStr x):=by cases es;simp
  rw [e1]
  unfold keyAt
  rw [← Array.all_toList] at hall
  exact str_idx hr (fun p hp=>hk.key p hp) hall
 unfold foundByValue
 rw [hidx]
 cases hj:keyAt kvs (.str x) with
 | none=>rw [hj] at h;exact wpAny_pure h
 | some j=>
  obtain ⟨p,a,e'⟩:=find_at hj
  obtain ⟨e,he,b,_⟩:=ent_back hr a
  dsimp only
  rw [he]
  dsimp only
  refine wpAny_bind (wpAny_dictEpoch ho hd (wpAny_bind (eq_key (hk.key _ (List.mem_of_getElem? a)) h6 (by walk_at "o") b (.str x t) (wpAny_bind (wpAny_dictEpoch ho hd ?_)))))
  refine ite_w (fun c=>absurd c (by rw [bne_self_eq_false];decide)) fun _u=>?_
  rw [e']
  rw [hj] at h
  exact wpAny_bind (wpAny_rule (wpAny_pure h))
theorem key_kinds {h:Heap} {kv:Value} (h6:KeyD 6 k) (rk:Rd V h kv k):(∃ i t,kv=.int i t)∨(∃ x t,kv=.str x t∧k=.str x)∨∃ a,kv=.ref a:=by
 cases rk with
 | int i t=>exact .inl ⟨i,t,rfl⟩
 | str x t=>exact .inr (.inl ⟨x,t,rfl,rfl⟩)
 | tuple=>exact .inr (.inr ⟨_,rfl⟩)
 | list=>exact .inr (.inr ⟨_,rfl⟩)
 | _=>cases h6
theorem str_w {α:Type} {M:Model} {Q:α→Shared→Prop} {kv:Value} {C:Prop} [Decidable C] {F:Str→Tok→Sem α} {J:Sem α} (hF:∀ x t,kv=.str x t→C→wpAny M A (F x t) Q E s) (hJ:wpAny M A J Q E s) :
  wpAny M A (match kv with | .str x t=>if C then F x t else J | _=>J) Q E s:=by
 split
 ·exact ite_w (hF _ _ rfl) fun _u=>hJ
 exact hJ
theorem ref_w {α:Type} {M:Model} {Q:α→Shared→Prop} {kv:Value} {C:Prop} [Decidable C] {F J:Sem α} (hC:¬C) (hJ:wpAny M A J Q E s) :
  wpAny M A (match kv with | .ref _=>if C then F else J | _=>J) Q E s:=by
 split
 ·rw [if_neg hC];exact hJ
 exact hJ
inductive DF (kvs:List (PyData × AV)) (k:PyData) (es:Array DictEntry) (hh:Int) (s:Shared) (rest:List Nat) (b:Option (Option Nat) × Option Nat) (s':Shared):Prop
 | mk (e1:s'=s) (e2:b.1=none) (nd:rest.Nodup) (at':∀ i∈rest,∃ e,es[i]?=some e∧(e.hash == hh)=true) (hit:(b.2=none∧∀ j,keyAt kvs k=some j→j∈rest)∨∃ j,b.2=some j∧keyAt kvs k=some j∧j∉rest)
theorem dict_find {d:Addr} {es:Array DictEntry} {ep:Nat} {kv:Value} {o:Obj} {Q:Option Nat→Shared→Prop} (hu:A.units+16<cLine) (ho:s.heap.get? d=some o) (hd:o.data=.dict es ep) (hr:EntAll V s.heap w es.toList kvs)
  (hk:KOk kvs) (h6:KeyD 6 k) (rk:Rd V s.heap kv k) (h:Q (keyAt kvs k) s):wpAny (model prog w) A (dictFind d kv (hashD w k)) Q E s:=by
 have stale:¬(es.any fun e=>e.key == kv&&e.hash != hashD w k)=true:=by
  rw [Bool.not_eq_true,← Array.any_toList,List.any_eq_false]
  intro e' hin hc
  obtain ⟨i,hi⟩:=List.getElem?_of_mem hin
  obtain ⟨k',v',a1,b1,c1,_⟩:=hr.at hi
  obtain ⟨x1,x2⟩:=Bool.and_eq_true_iff.mp hc
  rw [beq_iff_eq.mp x1] at b1
  have kk:k'=k:=Rd.inj (hk.key _ (List.mem_of_getElem? a1)).lay.1 h6.lay.1 b1 rk
  exact bne_iff_ne.mp x2 (by rw [c1,kk])
 unfold dictFind
 try with_reducible refine wpAny_holding ?_
 refine wpAny_bind (wpAny_dictEntries ho hd ?_)
 refine str_w (fun x t e hall=>?_) ?_
 ·rw [e] at rk ⊢
  have ek:k=.str x:=by
   cases rk with
   | str=>rfl
   | _=>cases h6
  rw [ek] at h6 h
  exact dict_strOnly hu ho hd hr hk h6 h hall
 refine ite_w (fun _u=>dict_plain hu ho hd hr hk h6 rk h) fun _u=>?_
 refine ref_w stale ?_
 clear stale
 refine ite_tell (fun hQ=>dict_tell hr hk h6 rk hQ) ?_
 refine ite_w (fun c=>absurd c (by simp)) fun _u=>?_
 refine wpAny_bind ?_
 refine wpAny_forIn_list _ (DF kvs k es (hashD w k) s) _ ?_ ?_ _ _ ⟨rfl,rfl,plc_nodup,fun i hi=>plc_hash hi,.inl ⟨rfl,fun j hj=>plc_in hr hk h6 hj⟩⟩
 ·rintro i rest ⟨b1,b2⟩ s' ⟨rfl,hb1,q1,q2,q3⟩
  obtain ⟨e,he,hh⟩:=q2 i (.head _)
  obtain ⟨k',v,a,b,c,_⟩:=ent_at hr he
  rw [List.nodup_cons] at q1
  dsimp only at hb1 q3
  subst hb1
  rw [he]
  dsimp only
  rw [if_pos hh]
  refine wpAny_bind (wpAny_dictEpoch ho hd (wpAny_bind (eq_key (hk.key _ (List.mem_of_getElem? a)) h6 (by walk_at "o") b rk (wpAny_bind (wpAny_dictEpoch ho hd ?_)))))
  refine ite_w (fun c=>absurd c (by rw [bne_self_eq_false];decide)) fun _u=>?_
  dsimp only
  refine ite_w (fun hkk=>?_) fun hkk=>?_
  ·have hf:=find_of hk h6 a hkk
   have hb2:b2=none:=by
    rcases q3 with ⟨q,_⟩ | ⟨j,_,q,q'⟩
    exact q
    rw [hf] at q;cases q;exact absurd (List.mem_cons_self) q'
   rw [hb2]
   refine ite_w (fun c=>absurd c (by decide)) fun _u=>?_
   refine wpAny_bind (wpAny_rule ?_)
   refine ite_w (fun _u=>wpAny_pure (wpAny_pure (by rw [hf] at h;exact h))) fun _u=>wpAny_pure ⟨rfl,rfl,q1.2,fun i hi=>q2 i (.tail _ hi),.inr ⟨i,rfl,hf,q1.1⟩⟩
  have hkk:PyData.eqv k' k=false:=Bool.not_eq_true _ |>.mp hkk
  have fin:(b2=none∧∀ j,keyAt kvs k=some j→j∈rest)∨∃ j,b2=some j∧keyAt kvs k=some j∧j∉rest:=
   q3.imp (fun q=>⟨q.1,fun j hj=>(List.mem_cons.mp (q.2 j hj)).resolve_left (hit_not a hkk hj)⟩) fun ⟨j,q,q',q''⟩=>⟨j,q,q',fun k'=>q'' (.tail _ k')⟩
  refine wpAny_bind (wpAny_rule ?_)
  refine ite_w (fun c=>absurd c (by simp)) fun _u=>?_
  exact wpAny_pure ⟨rfl,rfl,q1.2,fun i hi=>q2 i (.tail _ hi),fin⟩
 rintro ⟨b1,b2⟩ s' ⟨rfl,hb1,q1,q2,q3⟩
 have hb1:b1=none:=hb1
 subst hb1
 rcases q3 with ⟨q,q'⟩ | ⟨j,q,q',q''⟩
 ·have q:b2=none:=q
  subst q
  refine wpAny_pure ?_
  cases hj:keyAt kvs k with
  | none=>rw [hj] at h;exact h
  | some j=>exact absurd (q' j hj) List.not_mem_nil
 have q:b2=some j:=q
 subst q
 rw [q'] at h
 exact wpAny_pure h
end
end
section

noncomputable def kvGet:List (PyData × AV)→PyData→Option AV
 | [],_=>none
 | p::r,k=>if PyData.eqv p.1 k=true then some p.2 else kvGet r k
noncomputable def kvSet:List (PyData × AV)→PyData→AV→List (PyData × AV)
 | [],k,v=>[(k,v)]
 | p::r,k,v=>if PyData.eqv p.1 k=true then (p.1,v)::r else p::kvSet r k v
theorem kvGet_some {k:PyData}:∀ {kvs:List (PyData × AV)} {i:Nat},keyAt kvs k=some i→∃ p,kvs[i]?=some p∧kvGet kvs k=some p.2
 | [],i,h=>by simp [keyAt] at h
 | p::r,i,h=>by
  unfold keyAt at h
  rw [List.findIdx?_cons] at h
  rw [kvGet]
  by_cases e:PyData.eqv p.1 k=true
  ·rw [if_pos e] at h ⊢
   cases h;exact ⟨p,rfl,rfl⟩
  rw [if_neg e] at h ⊢
  cases hr:List.findIdx? (fun p=>PyData.eqv p.1 k) r with
  | none=>rw [hr] at h;cases h
  | some j=>
   rw [hr] at h
   cases h
   obtain ⟨q,a,b⟩:=kvGet_some (kvs:=r) (k:=k) hr
   exact ⟨q,by simpa using a,b⟩
theorem kvGet_none {k:PyData}:∀ {kvs:List (PyData × AV)},keyAt kvs k=none→kvGet kvs k=none
 | [],h=>rfl
 | p::r,h=>by
  unfold keyAt at h
  rw [List.findIdx?_cons] at h
  rw [kvGet]
  by_cases e:PyData.eqv p.1 k=true
  ·rw [if_pos e] at h;cases h
  rw [if_neg e] at h ⊢
  exact kvGet_none (kvs:=r) (by unfold keyAt;cases hr:List.findIdx? (fun p=>PyData.eqv p.1 k) r with
   | none=>rfl
   | some j=>rw [hr] at h;cases h)
theorem kvSet_none {k:PyData} {v:AV}:∀ {kvs:List (PyData × AV)},keyAt kvs k=none→kvSet kvs k v=kvs++[(k,v)]
 | [],h=>rfl
 | p::r,h=>by
  unfold keyAt at h
  rw [List.findIdx?_cons] at h
  rw [kvSet]
  by_cases e:PyData.eqv p.1 k=true
  ·rw [if_pos e] at h;cases h
  rw [if_neg e] at h ⊢
  rw [kvSet_none (kvs:=r) (by unfold keyAt;cases hr:List.findIdx? (fun p=>PyData.eqv p.1 k) r with
   | none=>rfl
   | some j=>rw [hr] at h;cases h)]
  rfl
theorem kvSet_some {k:PyData} {v:AV}:∀ {kvs:List (PyData × AV)} {i:Nat},keyAt kvs k=some i→kvSet kvs k v=kvs.modify i fun p=>(p.1,v)
 | [],i,h=>by simp [keyAt] at h
 | p::r,i,h=>by
  unfold keyAt at h
  rw [List.findIdx?_cons] at h
  rw [kvSet]
  by_cases e:PyData.eqv p.1 k=true
  ·rw [if_pos e] at h ⊢
   cases h;rfl
  rw [if_neg e] at h ⊢
  cases hr:List.findIdx? (fun p=>PyData.eqv p.1 k) r with
  | none=>rw [hr] at h;cases h
  | some j=>
   rw [hr] at h
   cases h
   rw [kvSet_some (kvs:=r) (k:=k) hr]
   rfl
theorem kvSet_keys {k:PyData} {v:AV}:∀ {kvs:List (PyData × AV)},(kvSet kvs k v).map (·.1)=if (keyAt kvs k).isSome then kvs.map (·.1) else kvs.map (·.1)++[k]:=by
 intro kvs
 cases h:keyAt kvs k with
 | none=>rw [kvSet_none h];simp
 | some i=>
  rw [kvSet_some h]
  simp only [Option.isSome_some,if_true]
  clear h
  induction kvs generalizing i with
  | nil=>simp
  | cons p r ih=>cases i with
   | zero=>simp [List.modify]
   | succ i=>simp only [List.modify_succ_cons,List.map_cons,ih]
theorem KOk.set {kvs:List (PyData × AV)} {k:PyData} {v:AV} (hk:KOk kvs) (h6:KeyD 6 k):KOk (kvSet kvs k v):=by
 have e:=kvSet_keys (kvs:=kvs) (k:=k) (v:=v)
 have keys:∀ x∈(kvSet kvs k v).map (·.1),KeyD 6 x:=by
  rw [e]
  intro x hx
  split at hx
  ·obtain ⟨p,hp,rfl⟩:=List.mem_map.mp hx;exact hk.key p hp
  rcases List.mem_append.mp hx with hx | hx
  ·obtain ⟨p,hp,rfl⟩:=List.mem_map.mp hx;exact hk.key p hp
  rw [List.mem_singleton.mp hx];exact h6
 refine ⟨fun p hp=>keys _ (List.mem_map.mpr ⟨p,hp,rfl⟩),?_⟩
 rw [e]
 cases h:keyAt kvs k with
 | some i=>exact hk.nd
 | none=>
  simp only [Option.isSome_none,Bool.false_eq_true,if_false]
  rw [List.nodup_append]
  refine ⟨hk.nd,by simp,fun x hx y hy=>?_⟩
  rw [List.mem_singleton.mp hy]
  rintro rfl
  obtain ⟨p,hp,rfl⟩:=List.mem_map.mp hx
  have:=List.findIdx?_eq_none_iff.mp h p hp
  rw [((hk.key p hp).eqv h6).mpr rfl] at this
  cases this
theorem EntAll.set_new {V:Addr→Prop} {h:Heap} {w:World} {es:List DictEntry} {kvs:List (PyData × AV)} (r:EntAll V h w es kvs) {e:DictEntry} {k:PyData} {v:AV} (a:Rd V h e.key k) (b:e.hash=hashD w k) (c:VR V h e.val v):EntAll V h w (es++[e]) (kvs++[(k,v)]):=by
 induction r with
 | nil=>exact .cons a b c .nil
 | cons a' b' c' _ ih=>exact .cons a' b' c' ih
theorem EntAll.set_old {V:Addr→Prop} {h:Heap} {w:World} {es:List DictEntry} {kvs:List (PyData × AV)} (r:EntAll V h w es kvs) {u:Value} {v:AV} (c:VR V h u v) (i:Nat):EntAll V h w (es.modify i fun e=>{ e with val:=u }) (kvs.modify i fun p=>(p.1,v)):=by
 induction r generalizing i with
 | nil=>simp;exact .nil
 | @cons e es k' v' kvs a' b' c' r' ih=>cases i with
  | zero=>exact .cons a' b' c r'
  | succ i=>rw [List.modify_succ_cons,List.modify_succ_cons];exact .cons a' b' c' (ih i)
section
variable {prog:Program} {w:World} {A:Around} {E:Value→Shared→Prop} {V:Addr→Prop} {s:Shared} {kvs:List (PyData × AV)} {k:PyData} {d:Addr} {kv:Value}
theorem DAt.typeIs (D:DAt w V s.heap d kvs):s.TypeIs (.ref d) "dict":=let ⟨_,_,e,_⟩:=D;⟨_,e,rfl⟩
theorem dict_get {Q:Option Value→Shared→Prop} (hu:A.units+16<cLine) (D:DAt w V s.heap d kvs) (hk:KOk kvs) (h6:KeyD 6 k) (rk:Rd V s.heap kv k)
  (hs:∀ v av tk,kvGet kvs k=some av→VR V s.heap v av→Q (some v) { s with toks:=tk }) (hn:∀ tk,kvGet kvs k=none→Q none { s with toks:=tk }):wpAny (model prog w) A (dictGet d kv) Q E s:=by
 obtain ⟨es,ep,e,hr⟩:=D
 unfold dictGet
 try with_reducible refine wpAny_holding ?_
 refine wpAny_bind (hash_key h6 (by walk_at "o") rk fun tk=>wpAny_bind (dict_find (s:={ s with toks:=tk }) hu e rfl hr hk h6 rk ?_))
 cases hj:keyAt kvs k with
 | none=>exact wpAny_pure (hn tk (kvGet_none hj))
 | some i=>
  obtain ⟨p,a,b⟩:=kvGet_some hj
  obtain ⟨x,hx,_,_,c⟩:=hr.back a
  refine wpAny_bind (wpAny_dictEntries (s:={ s with toks:=tk }) e rfl ?_)
  rw [show es[i]?=some x by simpa using hx]
  exact wpAny_pure (hs _ _ tk b c)
theorem dict_has {Q:Bool→Shared→Prop} (hu:A.units+17<cLine) (hd:(d == sysModules)=false) (D:DAt w V s.heap d kvs) (hk:KOk kvs) (h6:KeyD 6 k) (rk:Rd V s.heap kv k) (h:∀ tk,Q (kvGet kvs k).isSome { s with toks:=tk }) :
  wpAny (model prog w) A (contains (.ref d) kv) Q E s:=by
 unfold contains
 try with_reducible refine wpAny_holding ?_
 refine wpAny_bind (wpAny_specialOf D.typeIs slot_dict_contains.lookup ?_)
 show wpAny _ _ (if (some (Value.builtin "dict.__contains__") == some Value.none)=true then _ else _) _ E s
 rw [if_neg (by rw [beq_builtin_none];exact Bool.false_ne_true)]
 refine wpAny_bind (wpAny_callSpecialUnlessNone?_slot (name:=Str.ofString "__contains__") D.typeIs slot_dict_contains
  (wpAny_call_entry slot_dict_contains D.typeIs entry_dict_contains ?_ (args_dict_contains _ _)))
 show wpAny _ _ (dictGet d kv >>= _) _ _ s
 refine wpAny_bind (dict_get (A:=A.in1) (by show A.units+1+16<cLine;walk_at "o") D hk h6 rk (fun v av tk e _u=>?_) fun tk e=>?_)
 ·show wpAny _ _ (ret (.bool true)) _ _ _
  have:=h tk
  rw [e] at this
  exact wpAny_pure ⟨_,rfl,wpAny_truthy_bool this⟩
 show wpAny _ _ (Builtin.Dict.pendingKey? d kv >>= _) _ _ _
 have:=h tk
 rw [e] at this
 exact wpAny_bind (wpAny_pendingKey_other hd (wpAny_pure ⟨_,rfl,wpAny_truthy_bool this⟩))
theorem dict_notin {Q:Value→Shared→Prop} (hu:A.units+17<cLine) (hd:(d == sysModules)=false) (D:DAt w V s.heap d kvs) (hk:KOk kvs) (h6:KeyD 6 k) (rk:Rd V s.heap kv k) (h:∀ tk,Q (.bool (!(kvGet kvs k).isSome)) { s with toks:=tk }) :
  wpAny (model prog w) A (compareOp .NotIn kv (.ref d)) Q E s:=by
 show wpAny _ _ (do return .bool !(← contains (.ref d) kv)) Q E s
 exact wpAny_bind (dict_has hu hd D hk h6 rk fun tk=>wpAny_pure (h tk))
theorem dict_item {av:AV} {Q:Value→Shared→Prop} (hu:A.units+17<cLine) (D:DAt w V s.heap d kvs) (hk:KOk kvs) (h6:KeyD 6 k) (rk:Rd V s.heap kv k) (hg:kvGet kvs k=some av) (h:∀ v tk,VR V s.heap v av→Q v { s with toks:=tk }) :
  wpAny (model prog w) A (getItem (.ref d) kv) Q E s:=by
 unfold getItem
 try with_reducible refine wpAny_holding ?_
 refine wpAny_bind (wpAny_sequenceKey D.typeIs (by decide) ?_)
 refine wpAny_bind (wpAny_callSpecial?_slot (name:=Str.ofString "__getitem__") D.typeIs slot_dict_getitem
  (wpAny_call_entry slot_dict_getitem D.typeIs entry_dict_getitem ?_ (args_dict_getitem _ _)))
 show wpAny _ _ (dictGet d kv >>= _) _ _ s
 refine wpAny_bind (dict_get (A:=A.in1) (by show A.units+1+16<cLine;walk_at "o") D hk h6 rk (fun v av' tk e r=>?_) fun tk e=>by rw [hg] at e;cases e)
 rw [hg] at e
 cases e
 exact wpAny_pure ⟨v,rfl,wpAny_pure (h v tk r)⟩
theorem dict_get2 {dv:Value} {da:AV} {Q:Value→Shared→Prop} (hu:A.units+17<cLine) (hd:(d == sysModules)=false) (D:DAt w V s.heap d kvs) (hk:KOk kvs) (h6:KeyD 6 k) (rk:Rd V s.heap kv k) (rd:VR V s.heap dv da)
  (h:∀ v tk,VR V s.heap v ((kvGet kvs k).getD da)→Q v { s with toks:=tk }):wpAny (model prog w) A (call (.builtin "dict.get") [.ref d,kv,dv]) Q E s:=by
 refine wpAny_call_entry PySem.F.slot_dict_get D.typeIs PySem.F.entry_dict_get ?_ (PySem.F.args_dict_get_3 _ _ _)
 show wpAny _ _ (dictGet d kv >>= _) _ _ s
 refine wpAny_bind (dict_get (A:=A.in1) (by show A.units+1+16<cLine;walk_at "o") D hk h6 rk (fun v av' tk e r=>?_) fun tk e=>?_)
 exact wpAny_pure ⟨v,rfl,h v tk (by rw [e];exact r)⟩
 show wpAny _ _ (Builtin.Dict.missed d kv >>= _) _ _ _
 exact wpAny_bind (wpAny_missed_other hd (wpAny_pure ⟨dv,rfl,h dv tk (by rw [e];exact rd)⟩))
theorem dict_set {u:Value} {av:AV} {Q:Unit→Shared→Prop} (hu:A.units+17<cLine) (D:DAt w V s.heap d kvs) (hk:KOk kvs) (h6:KeyD 6 k) (rk:Rd V s.heap kv k) (ru:VR V s.heap u av) (hV:V d) (hz:kvs.length≤100000)
  (h:∀ h' tk,DAt w V h' d (kvSet kvs k av)→Heap.SameBut d s.heap h'→Q () { s with heap:=h',toks:=tk }):wpAny (model prog w) A (setItem (.ref d) kv u) Q E s:=by
 have T:=D.typeIs
 obtain ⟨es,ep,e,hr⟩:=D
 have hz:es.size≤100000:=by rw [← Array.length_toList,hr.length];exact hz
 unfold setItem
 try with_reducible refine wpAny_holding ?_
 refine wpAny_bind (wpAny_sequenceKey T (by decide) ?_)
 refine wpAny_bind (wpAny_callSpecial?_slot (name:=Str.ofString "__setitem__") T slot_dict_setitem
  (wpAny_call_entry slot_dict_setitem T entry_dict_setitem ?_ (args_dict_setitem _ _ _)))
 show wpAny _ _ (Builtin.Dict.notOrdered "__setitem__" ⟨[.ref d,kv,u],[]⟩ >>= _) _ _ s
 refine wpAny_bind (wpAny_notOrdered_dict T ?_)
 show wpAny _ _ (dictSet d kv u >>= _) _ _ s
 refine wpAny_bind ?_
 unfold dictSet
 try with_reducible refine wpAny_holding ?_
 refine wpAny_bind (hash_key h6 (by show A.units+1+6<cLine;walk_at "o") rk fun tk=>?_)
 unfold dictSetHashed
 try with_reducible refine wpAny_holding ?_
 have xv:∀ a,a=d→V a:=fun a e=>e▸hV
 refine wpAny_bind (dict_find (A:=A.in1) (s:={ s with toks:=tk }) (by show A.units+1+16<cLine;walk_at "o") e rfl hr hk h6 rk ?_)
 cases hj:keyAt kvs k with
 | none=>
  refine wpAny_bind (wpAny_rule (wpAny_updateDictKeys (hz:=by have:(100000:Nat)≤sizeLine:=(by decide);walk_at "o") (s:={ s with toks:=tk }) e rfl (wpAny_pure ⟨.none,rfl,wpAny_pure (h _ tk ?_ (Heap.SameBut.update ..))⟩)))
  have g:Grow (fun a=>a=d) s.heap (s.heap.update d (Obj.mapDictKeys fun x=>x.push ⟨hashD w k,kv,u⟩)):=Grow.same (Heap.SameBut.update ..) rfl
  refine ⟨es.push ⟨hashD w k,kv,u⟩,ep+1,Heap.get?_update_self _ e (by rfl),?_⟩
  rw [kvSet_none hj,Array.toList_push]
  exact (hr.grow g xv).set_new (Rd.grow g xv rk) rfl (ru.grow g xv)
 | some i=>
  refine wpAny_bind (wpAny_rule (wpAny_bind (wpAny_updateDict (s:={ s with toks:=tk }) e rfl (wpAny_point (wpAny_pure ⟨.none,rfl,wpAny_pure (h _ tk ?_ (Heap.SameBut.update ..))⟩)))))
  have g:Grow (fun a=>a=d) s.heap (s.heap.update d (Obj.mapDict fun x=>x.modify i fun e=>{ e with val:=u })):=Grow.same (Heap.SameBut.update ..) rfl
  refine ⟨es.modify i fun e=>{ e with val:=u },ep,Heap.get?_update_self _ e (by rfl),?_⟩
  rw [kvSet_some hj,Array.toList_modify]
  exact (hr.grow g xv).set_old (ru.grow g xv) i
end
end
section

noncomputable def MAt (w:World) (V:Addr→Prop) (h:Heap) (a:Addr):Mut→Prop
 | .list xs=>∃ its,h.PlainList a its∧RdAll V h its.toList xs
 | .dict kvs=>DAt w V h a kvs∧KOk kvs
 | .raw o=>h.get? a=some o
theorem MAt.ex {w:World} {V:Addr→Prop} {h:Heap} {a:Addr} {m:Mut} (r:MAt w V h a m):∃ o,h.get? a=some o:=by
 cases m with
 | list xs=>obtain ⟨_,⟨_,e⟩,_⟩:=r;exact ⟨_,e⟩
 | dict kvs=>obtain ⟨⟨_,_,e,_⟩,_⟩:=r;exact ⟨_,e⟩
 | raw o=>exact ⟨_,r⟩
theorem MAt.grow {w:World} {V X:Addr→Prop} {h h':Heap} {a:Addr} {m:Mut} (r:MAt w V h a m) (g:Grow X h h') (xv:∀ a,X a→V a) (n:¬X a):MAt w V h' a m:=by
 cases m with
 | list xs=>obtain ⟨its,⟨k,e⟩,r⟩:=r;exact ⟨its,⟨k,g _ _ e n⟩,r.grow g xv⟩
 | dict kvs=>obtain ⟨⟨es,ep,e,r⟩,k⟩:=r;exact ⟨⟨es,ep,g _ _ e n,r.grow g xv⟩,k⟩
 | raw o=>exact g _ _ r n
theorem MAt.to {w:World} {V V':Addr→Prop} {h:Heap} {a:Addr} {m:Mut} (r:MAt w V h a m) (vv:∀ a,V' a→V a∨h.get? a=none):MAt w V' h a m:=by
 cases m with
 | list xs=>obtain ⟨its,e,r⟩:=r;exact ⟨its,e,r.to vv⟩
 | dict kvs=>obtain ⟨⟨es,ep,e,r⟩,k⟩:=r;exact ⟨⟨es,ep,e,r.to vv⟩,k⟩
 | raw o=>exact r
set_option genInjectivity false in
structure Base where
 prog:Program
 w:World
 h₁:Heap
 mg:Str→Option Value
 mb:Str→Option Value
 g:h₁.Ns mainGlobals mg
 b:h₁.Ns builtinsNs mb
 lim:h₁.NoLimit
 bb:∀ x v,bootBuiltins x=some v→x≠"__name__"→mb x=some v
noncomputable def WdOf (w:World) (R:Addr→Prop) (V:Addr→Prop) (h:Heap) (σ:Sto):Prop:=∀ a,R a→∃ m,σ a=some m∧MAt w V h a m
@[reducible] noncomputable def Base.sys (B:Base) (R:Addr→Prop) (lo:∀ a,R a→B.h₁.get? a=none):Sys where
 prog:=B.prog
 w:=B.w
 h₁:=B.h₁
 mg:=B.mg
 mb:=B.mb
 R:=R
 Wd:=WdOf B.w R
 lo:=lo
 g:=B.g
 b:=B.b
 lim:=B.lim
 grow:=fun wd g xv xr a k=>let ⟨m,e,r⟩:=wd a k;⟨m,e,r.grow g xv fun x=>xr a x k⟩
 ex:=fun wd a k=>let ⟨_,_,r⟩:=wd a k;r.ex
 to:=fun wd vv hr a k=>let ⟨m,e,r⟩:=wd a k;⟨m,e,r.to vv⟩
noncomputable def put (σ:Sto) (a:Addr) (m:Mut):Sto:=fun b=>if b=a then some m else σ b
theorem put_here {σ:Sto} {a:Addr} {m:Mut}:put σ a m a=some m:=if_pos rfl
theorem put_there {σ:Sto} {a b:Addr} {m:Mut} (h:b≠a):put σ a m b=σ b:=if_neg h
theorem wd_put {w:World} {R V:Addr→Prop} {h h':Heap} {σ:Sto} {a:Addr} {m:Mut} (wd:WdOf w R V h σ) (hV:V a) (s:Heap.SameBut a h h') (r:MAt w V h' a m):WdOf w R V h' (put σ a m):=fun b k=>by
 by_cases e:b=a
 ·subst e;exact ⟨m,put_here,r⟩
 obtain ⟨m',e',r'⟩:=wd b k
 exact ⟨m',(put_there e).trans e',r'.grow (X:=fun x=>x=a) (Grow.same s rfl) (fun x q=>q▸hV) e⟩
variable {B:Base} {R:Addr→Prop} {lo:∀ a,R a→B.h₁.get? a=none}
noncomputable def Act (S:Sys) (n:Nat) (as:List AV) (σ:Sto) (f:List Value→Sem Value) (c:AV) (σ':Sto):Prop:=
 ∀ (V:Addr→Prop) (A:Around) (s:Shared) (vs:List Value) (Q:Value→Shared→Prop) (E:Value→Shared→Prop),Rn A n s.toks→Bs S s.heap→VOk S V s.heap→S.Wd V s.heap σ→VRs V s.heap vs as →
  (∀ v h' tk,Grow S.R s.heap h'→S.Wd V h' σ'→VR V h' v c→Q v { s with heap:=h',toks:=tk })→wpAny (model S.prog S.w) A (f vs) Q E s
theorem Act.of {S:Sys} {as:List AV} {σ:Sto} {f:List Value→Sem Value} {c:AV} (h:OpW S σ as f fun V h v=>VR V h v c):Act S 0 as σ f c σ:=fun V A s vs Q E rm bs vk wd r k=>
 h V A s vs Q E rm bs vk wd r fun v h' tk g r'=>k v h' tk g.none (S.grow wd g (fun _u k=>k.elim) fun _u k=>k.elim) r'
section rules
variable {S:Sys} {n:Nat} {env:Env} {ρ ρ₁ ρ₂:List (Str × AV)} {σ σ₁ σ₂ σ₃:Sto} {nm:List (Str × NameKind)}
noncomputable def MethB (S:Sys) (σ:Sto) (a:AV) (name:Str) (id:String):Prop:=∀ (V:Addr→Prop) (A:Around) (s:Shared) (v:Value) (pl:Sem Bool) (Q:Value × List Value→Shared→Prop) (E:Value→Shared→Prop),VR V s.heap v a→VOk S V s.heap→S.Wd V s.heap σ →
 Q (.builtin id,[v]) s→wpAny (model S.prog S.w) A (getMethod v name pl) Q E s
theorem ev_methb {pl:Sem Bool} {o:Expr} {name:Str} {apos pos:Pos} {args:List Expr} {id:String} {a c:AV} {as:List AV} (h0:Ev S n env ρ σ (eval o env) a σ₁) (hm:MethB S σ₁ a name id) (h1:Evs S n env ρ σ₁ (spliced (backTo pos (starEach args env))) as σ₂)
  (ha:Act S 0 (a::as) σ₂ (fun vs=>call (.builtin id) vs) c σ₃)
  (hs:(starEach args env).all (fun p=>!p.1)=true:=by rfl) (hs':(backTo pos (starEach args env)).any (·.1)=false:=by rfl)
  (he:eval (.Call (.Attribute o name apos) args [] pos) env=(do
   let ov ← eval o env
   standAt apos.atName
   let (f,first) ← holding [ov] (getMethod ov name pl)
   callWith pos f first (backTo pos (starEach args env)) []):=by rfl) :
  Ev S n env ρ σ (eval (.Call (.Attribute o name apos) args [] pos) env) c σ₃:=by
 constructor;intro V A s Q E rm q h
 refine MethodCall_ (wpAny_pos rm.pos (h0.run V A s _ E rm q fun v h' tk g q1 r p1=>?_)) he
 refine hm V A _ v _ _ _ r q1.vok q1.wd ?_
 dsimp only
 refine callWith_builtin hs' (evalArgs_any (wpAny_pos p1 (h1.run V A _ _ E (rm.at p1) q1 fun vs h'' tk' g' q2 r2 p2=>?_)) hs)
 refine ha V A _ _ Q E ((rm.at p2).le (Nat.zero_le _)) q2.base q2.vok q2.wd (.cons (r.grow g' q1.vok.1) r2) fun v h3 tk3 g3 w3 r3=>h v h3 tk3 ((g.trans g').trans g3) (q2.world g3 w3) r3
end rules
end
section
variable {B:Base} {R:Addr→Prop} {lo:∀ a,R a→B.h₁.get? a=none}
theorem VRs.three {V:Addr→Prop} {h:Heap} {vs:List Value} {a b c:AV} (r:VRs V h vs [a,b,c]):∃ v u x,vs=[v,u,x]∧VR V h v a∧VR V h u b∧VR V h x c:=by
 cases r with
 | cons r k=>
  obtain ⟨u,x,rfl,r',r''⟩:=k.two
  exact ⟨_,_,_,rfl,r,r',r''⟩
section
open AutoSeq1
theorem extend_tuple (l:Addr) (items:Array Value) (n:Nat) (b:Addr) (items2:Array Value) (n2:Nat) (dd:Option Addr) (sl:Array (Option Value)) (hs0:¬(!items.isEmpty&&Builtin.List.listTooLong (items.size+items2.size))=true) (hs1:items.size≤sizeLine) (hs2:items.size+items2.size≤sizeLine+1) :
  Meets (Builtin.«list.extend» ⟨[.ref l,.ref b],[]⟩) (fun _u R s=>s.heap.get? l=some { cls:=.type "list",dict:=none,data:=.seq items n,slots:=#[] }∧s.heap.get? b=some { cls:=.type "tuple",dict:=dd,data:=.seq items2 n2,slots:=sl }∧R (.ok (.ret Value.none)) { s with heap:=s.heap.update l (Obj.mapSeq fun x=>x++items2),toks:=s.toks }):=
 .of_wp fun prog w A R s h=>by
  obtain ⟨hp,g,d,tk,os⟩:=s;obtain ⟨hl,hb,h⟩:=h;have f1:=AutoSeq1.idx_int;have f2:=AutoSeq1.sub_tuple_tuple;have f3:=AutoSeq1.sub_list_list;have f4:=AutoSeq1.sub_tuple_list;have f5:=AutoSeq1.sub_list_tuple;
  have hz':(items++items2).size≤sizeLine+1:=by rw [Array.size_append];exact hs2
  wp_walk using (wpAny_updateSeq hl rfl (hz:=hs1) (_hz':=hz')),wpAny_loadPart' hl,wpAny_loadPart' hb;exact ⟨_,rfl,h⟩
end
section
variable {σ:Sto} {a:Addr}
theorem wd_list {V:Addr→Prop} {h:Heap} {w:World} {xs:List PyData} (wd:WdOf w R V h σ) (k:R a) (e:σ a=some (.list xs)):∃ its,h.PlainList a its∧RdAll V h its.toList xs:=by
 obtain ⟨m,e',r⟩:=wd a k
 rw [e] at e';cases e';exact r
theorem wd_dict {V:Addr→Prop} {h:Heap} {w:World} {kvs:List (PyData × AV)} (wd:WdOf w R V h σ) (k:R a) (e:σ a=some (.dict kvs)):DAt w V h a kvs∧KOk kvs:=by
 obtain ⟨m,e',r⟩:=wd a k
 rw [e] at e';cases e';exact r
theorem wd_raw {V:Addr→Prop} {h:Heap} {w:World} {o:Obj} (wd:WdOf w R V h σ) (k:R a) (e:σ a=some (.raw o)):h.get? a=some o:=by
 obtain ⟨m,e',r⟩:=wd a k
 rw [e] at e';cases e';exact r
theorem act_append {xs:List PyData} {x:PyData} (k:R a) (e:σ a=some (.list xs)) (hz:xs.length≤1000000):Act (B.sys R lo) 0 [.v (.ref a),.d x] σ (fun vs=>call (.builtin "list.append") vs) (.d .none) (put σ a (.list (xs++[x]))):=by
 intro V A s vs Q E rm bs vk wd r h
 obtain ⟨v,u,rfl,rfl,r2⟩:=r.two
 obtain ⟨its,hl,ra⟩:=wd_list wd k e
 have hV:V a:=vk.1 a k
 refine wpAny_list_append_plain hl (fun h' hl' hs=>?_) (by rw [ra.size];exact Nat.le_trans hz (by decide))
 have g:Grow (fun b=>b=a) s.heap h':=Grow.same hs rfl
 have xv:∀ b,b=a→V b:=fun b e=>e▸hV
 refine h _ h' s.toks (g.mono fun b e=>e▸k) (wd_put wd hV hs ⟨_,hl',?_⟩) .none
 rw [Array.toList_push]
 exact (ra.append (.cons r2 .nil)).grow g xv
theorem act_extend {xs ys:List PyData} (k:R a) (e:σ a=some (.list xs)) (hz:xs.length+ys.length≤1000000):Act (B.sys R lo) 0 [.v (.ref a),.d (.tuple ys)] σ (fun vs=>call (.builtin "list.extend") vs) (.d .none) (put σ a (.list (xs++ys))):=by
 intro V A s vs Q E rm bs vk wd r h
 obtain ⟨v,u,rfl,rfl,r2⟩:=r.two
 obtain ⟨its,⟨m,hl⟩,ra⟩:=wd_list wd k e
 have hV:V a:=vk.1 a k
 refine Rd.ofTuple r2 fun b o vs n nb e' c d rb ev=>?_
 subst ev
 have hz':its.size+vs.size≤1000000:=by rw [ra.size,rb.size];exact hz
 obtain ⟨cls,dd,data,sl⟩:=o
 simp only at c d
 obtain ⟨rfl,rfl,rfl⟩:=c
 subst d
 refine call_meets PySem.F.slot_list_extend ⟨_,hl,rfl⟩ PySem.F.entry_list_extend (PySem.F.args_list_extend_2 _ _) (extend_tuple a its m b vs n none #[] (extend_door (Nat.le_trans hz' (by decide))) (Nat.le_trans (Nat.le_add_right _ _) (Nat.le_trans hz' (by decide))) (Nat.le_trans hz' (by decide))) ⟨hl,e',?_⟩
 have hs:Heap.SameBut a s.heap (s.heap.update a (Obj.mapSeq fun x=>x++vs)):=Heap.SameBut.update ..
 have g:Grow (fun b=>b=a) s.heap (s.heap.update a (Obj.mapSeq fun x=>x++vs)):=Grow.same hs rfl
 refine h _ _ s.toks (g.mono fun b e=>e▸k) (wd_put wd hV hs ⟨its++vs,⟨_,Heap.get?_update_self _ hl rfl⟩,?_⟩) .none
 rw [Array.toList_append]
 exact (ra.append rb).grow g fun b e=>e▸hV
theorem act_pop {xs:List PyData} {x:PyData} (k:R a) (e:σ a=some (.list (xs++[x]))) (hz:xs.length≤1000000):Act (B.sys R lo) 0 [.v (.ref a)] σ (fun vs=>call (.builtin "list.pop") vs) (.d x) (put σ a (.list xs)):=by
 intro V A s vs Q E rm bs vk wd r h
 obtain ⟨v,rfl,rfl⟩:=r.one
 obtain ⟨its,⟨m,hl⟩,ra⟩:=wd_list wd k e
 have hV:V a:=vk.1 a k
 have hsz:its.size=xs.length+1:=by rw [ra.size,List.length_append];rfl
 obtain ⟨y,hy,ry⟩:=ra.at (i:=xs.length) (x:=x) (by simp)
 refine call_meets PySem.F.slot_list_pop ⟨_,hl,rfl⟩ PySem.F.entry_list_pop (PySem.F.args_list_pop_1 _) (MeetsSeq.list_pop_last a its m y (by rw [hsz];exact hy) (by rw [hsz];exact Nat.le_trans (Nat.succ_le_succ hz) (by decide))) ⟨hl,?_⟩
 have hs:Heap.SameBut a s.heap (s.heap.update a (Obj.mapSeq fun xs=>xs.eraseIdxIfInBounds (its.size - 1))):=Heap.SameBut.update ..
 have g:Grow (fun b=>b=a) s.heap (s.heap.update a (Obj.mapSeq fun xs=>xs.eraseIdxIfInBounds (its.size - 1))):=Grow.same hs rfl
 have xv:∀ b,b=a→V b:=fun b e=>e▸hV
 refine h _ _ s.toks (g.mono fun b e=>e▸k) (wd_put wd hV hs ⟨its.eraseIdxIfInBounds (its.size - 1),⟨_,Heap.get?_update_self _ hl rfl⟩,?_⟩) (Rd.grow g xv ry)
 have:(its.eraseIdxIfInBounds (its.size - 1)).toList=its.toList.take xs.length:=by
  simp [Array.eraseIdxIfInBounds,hsz]
  rw [List.eraseIdx_eq_take_drop_succ,List.drop_of_length_le (by rw [Array.length_toList];walk_at "o"),List.append_nil]
 rw [this]
 have:=ra.take xs.length
 simp only [List.take_left'] at this
 exact this.grow g xv
end
end
section
variable {B:Base} {R:Addr→Prop} {lo:∀ a,R a→B.h₁.get? a=none}
section
variable {σ:Sto} {a:Addr}
noncomputable def Scal:AV→Prop
 | .d (.int _) | .d (.bool _)=>True
 | _=>False
theorem VR.scal {V V':Addr→Prop} {h:Heap} {v:Value} {c:AV} (hc:Scal c) (r:VR V h v c):VR V' h v c:=by
 match c,hc with
 | .d (.int i),_=>obtain ⟨t,rfl⟩:=Rd.ofInt r;exact Rd.int _ _
 | .d (.bool b),_=>obtain rfl:=Rd.ofBool r;exact Rd.bool _
theorem VRs.to {V V':Addr→Prop} {h:Heap} {vs:List Value} {as:List AV} (r:VRs V h vs as) (vv:∀ a,V' a→V a∨h.get? a=none):VRs V' h vs as:=by
 induction r with
 | nil=>exact .nil
 | cons a _ ih=>exact .cons (a.to vv) ih
theorem rd_open {V:Addr→Prop} {h:Heap} {w:World} {xs:List PyData} (wd:WdOf w R V h σ) (k:R a) (e:σ a=some (.list xs)):Rd (fun b=>V b∧b≠a) h (.ref a) (.list xs):=by
 obtain ⟨its,⟨m,hl⟩,ra⟩:=wd_list wd k e
 exact .list (fun q=>q.2 rfl) hl ⟨rfl,rfl,rfl⟩ rfl (ra.to fun b q=>.inl q.1)
theorem opw_fst {xs:List PyData} {as:List AV} {f:List Value→Sem Value} {c:AV} (k:R a) (e:σ a=some (.list xs)) (hc:Scal c) (h:Op (B.sys R lo) (.d (.list xs)::as) f fun V h v=>VR V h v c):OpW (B.sys R lo) σ (.v (.ref a)::as) f fun V h v=>VR V h v c:=by
 intro V A s vs Q E rm bs vk wd r hq
 cases r with
 | cons r1 r=>
  have r1:_=_:=r1
  subst r1
  exact h (fun b=>V b∧b≠a) A s _ Q E rm bs (fun b q=>vk.2 b q.1) (.cons (rd_open wd k e) (r.to fun b q=>.inl q.1)) fun v h' tk g r'=>hq v h' tk g (r'.scal hc)
theorem opw_snd {xs:List PyData} {x:AV} {f:List Value→Sem Value} {c:AV} (k:R a) (e:σ a=some (.list xs)) (hc:Scal c) (h:Op (B.sys R lo) [x,.d (.list xs)] f fun V h v=>VR V h v c):OpW (B.sys R lo) σ [x,.v (.ref a)] f fun V h v=>VR V h v c:=by
 intro V A s vs Q E rm bs vk wd r hq
 obtain ⟨v,u,rfl,r1,r2⟩:=r.two
 have r2:_=_:=r2
 subst r2
 exact h (fun b=>V b∧b≠a) A s _ Q E rm bs (fun b q=>vk.2 b q.1) (.cons (r1.to fun b q=>.inl q.1) (.cons (rd_open wd k e) .nil)) fun v h' tk g r'=>hq v h' tk g (r'.scal hc)
theorem opw_item {value slice:Expr} {xs:List PyData} {k:Int} {x:PyData} (ka:R a) (e:σ a=some (.list xs)) (h1:-(xs.length:Int)≤k) (h2:-(2 ^ 63)≤k) (h3:k<2 ^ 63) (hx:xs[placeOf k xs.length]?=some x)
  (hs:∀ o i,subscripted slice false o i=operate [o,i] (getItem o i):=by intro _ _;with_unfolding_all rfl):OpW (B.sys R lo) σ [.v (.ref a),.d (.int k)] (op2 (subscriptTail value slice)) fun V h v=>VR V h v (.d x):=by
 intro V A s vs Q E rm bs vk wd r h
 obtain ⟨v,u,rfl,r1,r2⟩:=r.two
 have r1:_=_:=r1
 subst r1
 obtain ⟨its,hpl,ra⟩:=wd_list wd ka e
 have hl:=hpl.isList
 obtain ⟨t2,rfl⟩:=Rd.ofInt r2
 obtain ⟨y,hy,ry⟩:=ra.at hx
 have fin:=h y s.heap s.toks (Grow.refl _ _) ry
 rw [← ra.size] at hy h1
 refine tail_any hl.typeIs slot_list_getitem.lookup ?_ (hs _ _)
 unfold placeOf at hy
 split at hy
 exact wpAny_getItem_list_neg hl (by assumption) h1 h2 hy fin;exact wpAny_getItem_list hl (by walk_at "o") h3 hy fin
theorem opw_ditem {value slice:Expr} {kvs:List (PyData × AV)} {k:PyData} {x:AV} (ka:R a) (e:σ a=some (.dict kvs)) (h6:KeyD 6 k) (hg:kvGet kvs k=some x)
  (hs:∀ o i,subscripted slice false o i=operate [o,i] (getItem o i):=by intro _ _;with_unfolding_all rfl):OpW (B.sys R lo) σ [.v (.ref a),.d k] (op2 (subscriptTail value slice)) fun V h v=>VR V h v x:=by
 intro V A s vs Q E rm bs vk wd r h
 obtain ⟨v,u,rfl,r1,r2⟩:=r.two
 have r1:_=_:=r1
 subst r1
 obtain ⟨D,kk⟩:=wd_dict wd ka e
 refine tail_any D.typeIs slot_dict_getitem.lookup (dict_item (by have:=rm.units;walk_at "o") D kk h6 r2 hg fun v tk r'=>h v s.heap tk (Grow.refl _ _) r') (hs _ _)
theorem opw_dnotin {kvs:List (PyData × AV)} {k:PyData} (ka:R a) (e:σ a=some (.dict kvs)) (h6:KeyD 6 k) (hd:(a == sysModules)=false) :
  OpW (B.sys R lo) σ [.d k,.v (.ref a)] (op2 (compareOp .NotIn)) fun V h v=>VR V h v (.d (.bool (!(kvGet kvs k).isSome))):=by
 intro V A s vs Q E rm bs vk wd r h
 obtain ⟨v,u,rfl,r1,r2⟩:=r.two
 have r2:_=_:=r2
 subst r2
 obtain ⟨D,kk⟩:=wd_dict wd ka e
 exact dict_notin (by have:=rm.units;walk_at "o") hd D kk h6 r1 fun tk=>h _ s.heap tk (Grow.refl _ _) (.bool _)
theorem opw_dget {kvs:List (PyData × AV)} {k:PyData} {x:AV} (ka:R a) (e:σ a=some (.dict kvs)) (h6:KeyD 6 k) (hd:(a == sysModules)=false) :
  OpW (B.sys R lo) σ [.v (.ref a),.d k,x] (fun vs=>call (.builtin "dict.get") vs) fun V h v=>VR V h v ((kvGet kvs k).getD x):=by
 intro V A s vs Q E rm bs vk wd r h
 obtain ⟨v,u,y,rfl,r1,r2,r3⟩:=r.three
 have r1:_=_:=r1
 subst r1
 obtain ⟨D,kk⟩:=wd_dict wd ka e
 exact dict_get2 (by have:=rm.units;walk_at "o") hd D kk h6 r2 r3 fun v tk r'=>h v s.heap tk (Grow.refl _ _) r'
theorem meth_list {xs:List PyData} {name:Str} {id:String} (ka:R a) (e:σ a=some (.list xs)) (slot:Slot "list" name id) (hty:typeOf (.builtin id)=pure (.type "method_descriptor")):MethB (B.sys R lo) σ (.v (.ref a)) name id:=by
 intro V A s v pl Q E r vk wd h
 have r:_=_:=r
 subst r
 obtain ⟨its,hpl,ra⟩:=wd_list wd ka e
 exact getMethod_list_of slot hty hpl.isList (by obtain ⟨m,e⟩:=hpl;exact ⟨_,e,rfl⟩) h
theorem meth_dict {kvs:List (PyData × AV)} {name:Str} {id:String} (ka:R a) (e:σ a=some (.dict kvs)) (slot:Slot "dict" name id) (hty:typeOf (.builtin id)=pure (.type "method_descriptor")):MethB (B.sys R lo) σ (.v (.ref a)) name id:=by
 intro V A s v pl Q E r vk wd h
 have r:_=_:=r
 subst r
 obtain ⟨D,kk⟩:=wd_dict wd ka e
 refine getMethod_builtin D.typeIs PySem.F.plainAttrs_dict slot hty (fun b e'=>?_) h
 cases e'
 obtain ⟨_,_,e,_⟩:=D
 exact ⟨_,e,rfl⟩
theorem meth_data {xs:List PyData} {name:Str} {id:String} (slot:Slot "list" name id) (hty:typeOf (.builtin id)=pure (.type "method_descriptor")) {S:Sys} {σ:Sto}:MethB S σ (.d (.list xs)) name id:=by
 intro V A s v pl Q E r vk wd h
 refine Rd.ofList r fun a o vs k n e c d r ev=>?_
 subst ev
 exact getMethod_list_of slot hty ⟨_,e,c.1,_,d⟩ ⟨_,e,c.2.1⟩ h
end
section rules
variable {n:Nat} {env:Env} {ρ ρ₁ ρ₂:List (Str × AV)} {σ σ₁ σ₂ σ₃:Sto} {nm:List (Str × NameKind)} {a:Addr}
theorem ex_dset {o i value:Expr} {pos' pos:Pos} {kvs:List (PyData × AV)} {k:PyData} {x:AV} (h1:Ev (B.sys R lo) n env ρ σ (eval value env) x σ₁) (h2:Ev (B.sys R lo) n env ρ σ₁ (eval o env) (.v (.ref a)) σ₂) (h3:Ev (B.sys R lo) n env ρ σ₂ (eval i env) (.d k) σ₃)
  (ka:R a) (e:σ₃ a=some (.dict kvs)) (h6:KeyD 6 k) (hz:kvs.length≤100000) (hs:swapsWith value (some (.Subscript o i pos')) pos.line env=pure false:=by rfl) :
  Ex (B.sys R lo) n env ρ σ (exec (.Assign [.Subscript o i pos'] value pos) env) (.next ρ (put σ₃ a (.dict (kvSet kvs k x)))):=by
 constructor;intro V A s Q E rm q h
 refine wpAny_Assign_Subscript (wpAny_pos rm.pos (h1.run V A s _ E rm q fun v ha ta ga qa ra p1=>wpAny_pos p1 (h2.run V A _ _ E (rm.at p1) qa fun u hb tb gb qb rb p2=>h3.run V A _ _ E (rm.at p2) qb fun y hc tc gc qc rc=>?_))) hs
 have rb:_=_:=rb
 subst rb
 obtain ⟨D,kk⟩:=wd_dict qc.wd ka e
 refine dict_set (by have:=rm.units;walk_at "o") D kk h6 rc ((ra.grow gb qa.vok.1).grow gc qb.vok.1) (qc.vok.1 a ka) hz fun h' tk D' hs'=>?_
 have g:Grow R hc h':=Grow.same hs' ka
 exact h _ h' tk (((ga.trans gb).trans gc).trans g).own ⟨rfl,qc.world g (wd_put qc.wd (qc.vok.1 a ka) hs' ⟨D',kk.set h6⟩)⟩
end rules
end
section

noncomputable def NB (S:Sys) (n:Nat) (env:Env) (ρ:List (Str × AV)) (σ:Sto) (t:Sem Flow) (x:Str) (xs:List PyData) (σ₁:Sto):Prop:=
 ∀ (V:Addr→Prop) (A:Around) (s:Shared) (Q:Flow→Shared→Prop) (E:Value→Shared→Prop),Rn A n s.toks→View S V env s.heap ρ σ →
  (∀ a its h' tk,s.heap.get? a=none→Grow (fun b=>S.R b∨Own env b) s.heap h'→(∀ ρ₁,Upd x (.v (.ref a)) ρ ρ₁→View S (fun b=>V b∨b=a) env h' ρ₁ σ₁)→h'.PlainList a its→RdAll (fun b=>V b∨b=a) h' its.toList xs→Q .next { s with heap:=h',toks:=tk }) →
  wpAny (model S.prog S.w) A t Q E s
noncomputable def up (x:Str) (a:AV) (ρ:List (Str × AV)):List (Str × AV):=(x,a)::ρ.filter fun p=>p.1 != x
theorem up_upd {x:Str} {a:AV} {ρ:List (Str × AV)}:Upd x a ρ (up x a ρ):=fun p hp=>by
 rcases List.mem_cons.mp hp with e | hp
 exact .inl e
 obtain ⟨h1,h2⟩:=List.mem_filter.mp hp
 exact .inr ⟨h1,by simpa using h2⟩
theorem upd_up {x:Str} {a:AV} {ρ ρ₁:List (Str × AV)} (h:Upd x a ρ ρ₁):∀ p∈ρ₁,p∈up x a ρ:=fun p hp=>by
 rcases h p hp with e | ⟨h1,h2⟩
 ·rw [e];exact .head _
 exact .tail _ (List.mem_filter.mpr ⟨h1,by simpa using h2⟩)
theorem View.ownLt {S:Sys} {V:Addr→Prop} {env:Env} {h:Heap} {ρ:List (Str × AV)} {σ:Sto} (q:View S V env h ρ σ) {a:Addr} (k:Own env a):V a∧∃ o,h.get? a=some o:=by
 have:V a:=k.elim (fun e=>e▸q.own.1) fun ⟨y,e⟩=>(q.ownC y a e).1
 exact ⟨this,(q.vok.2 a this).2⟩
section rules
variable {S:Sys} {n:Nat} {env:Env} {ρ ρ₁ ρ₂ ρc:List (Str × AV)} {σ σ₁ σ₂:Sto} {nm:List (Str × NameKind)}
theorem nb_plain {x:Str} {e:Expr} {pos' pos:Pos} {xs:List PyData} (f:Fn env nm) (hb:Binds env x) (h1:EvN S n env ρ σ (eval e env) xs σ₁) (hs:swapsWith e (some (.Name x pos')) pos.line env=pure false:=by rfl) :
  NB S n env ρ σ (exec (.Assign [.Name x pos'] e pos) env) x xs σ₁:=by
 intro V A s Q E rm q h
 refine wpAny_Assign_Name (h1 V A s _ E rm q fun a its h' tk hn g q1 hl ra=>?_) hs
 refine bind_step (a:=.v (.ref a)) f hb up_upd q1 rfl fun h'' tk' g' q2=>?_
 have off:¬Own env a:=fun k=>by obtain ⟨_,o,e⟩:=q.ownLt k;rw [hn] at e;cases e
 have ownV:∀ b,Own env b→V b∨b=a:=fun b k=>.inl (q.ownLt k).1
 refine h a its h'' tk' hn (g.own.trans (g'.mono fun _u k=>.inr k)) (fun ρ₁ hu=>q2.sub (upd_up hu)) (hl.at fun o e=>g' _ _ e off) (ra.grow g' ownV)
theorem nb_comp {x y:Str} {px py pos pos':Pos} {iter elt:Expr} {ifs:List Expr} {scope:Scope} {a:AV} {items ys:List PyData} (f:Fn env nm) (hb:env.kindOf y=some .local) (cf:CF env nm scope x ρ ρc) (h1:Ev S n env ρ σ (eval iter env) a σ₁) (hi:IterOf S a items)
  (ct:CT S n (relab nm scope.names) x elt ifs ρc items σ₁ ys σ₂) (hz:items.length≤1000000) (hsw:swapsWith (.ListComp elt [⟨.Name x px,iter,ifs,0⟩] scope pos) (some (.Name y py)) pos'.line env=pure true) (hs:∀ x,foldedSetIterable iter env x=pure x:=by intro _;rfl) :
  NB S n env ρ σ (exec (.Assign [.Name y py] (.ListComp elt [⟨.Name x px,iter,ifs,0⟩] scope pos) pos') env) y ys σ₂:=by
 intro V A s Q E rm q h
 rw [exec_Assign_Name_used _ _ _ _ hsw]
 refine wpAny_bind (wpAny_standAt (wpAny_bind ?_))
 show wpAny _ A (do let _ ← comprehension (.ListComp elt [⟨.Name x px,iter,ifs,0⟩] scope pos) scope env _ (newList []) false (eval iter env) (some (assign (.Name y py) env))) _ _ s
 refine wpAny_bind (wpAny_mono (wpAny_comprehension_free (Q:=fun _u s'=>Q .next s') (use:=some (assign (.Name y py) env)) rfl hs (closureFor_is cf.free) cf.kind (fun y hy hl=>lookup_nodup cf.nd (hl▸hy)) (wpAny_pos rm.pos (h1.run V A s _ E rm q fun v h' tk g q1 r p1=>?_)))
  (fun _u s' hq=>wpAny_pure (wpAny_pure hq)) fun _u _u e=>e)
 refine comp_block (RR:=fun acc C=>compPost (model S.prog S.w) A E (some (assign (.Name y py) env)) (fun _u s'=>Q .next s') acc C) f cf.free cf.nd cf.cell cf.kind cf.own cf.sub hi ct hz (rm.at p1) q1 r ?_
 intro D C its h2 tk2 m hD hC hDC g2 q2 hl ra hn
 have gone:∀ b,h'.get? b=none→s.heap.get? b=none:=fun b hb=>by
  cases e:s.heap.get? b with
  | none=>rfl
  | some o=>
   by_cases k:S.R b
   ·obtain ⟨o',e'⟩:=S.ex q1.wd _ k;rw [hb] at e';cases e'
   have:=g _ o e k;rw [hb] at this;cases this
 refine wpAny_assign_Name (bind_step (a:=.v (.ref D)) f (.inl hb) up_upd q2 rfl fun h3 tk3 g3 q3=>?_)
 have old:∀ b,Own env b→∃ o,s.heap.get? b=some o:=fun b k=>(q.ownLt k).2
 have offD:¬Own env D:=fun k=>by obtain ⟨o,e⟩:=old _ k;rw [gone _ hD] at e;cases e
 have offC:¬Own env C:=fun k=>by obtain ⟨o,e⟩:=old _ k;rw [gone _ hC] at e;cases e
 refine ⟨m,ns_grow hn g3 offC,fun h4 hs4=>?_⟩
 have g4:Grow (fun b=>b=C) h3 h4:=Grow.same hs4 rfl
 have nC:¬V C:=q1.lost hC
 have ownV:∀ b,Own env b→V b∨b=C∨b=D:=fun b k=>.inl (q.ownLt k).1
 refine h D its h4 tk3 (gone _ hD) (Grow.trans_fresh (((g.trans g2).own (env:=env)).trans (g3.mono fun _u k=>.inr k)) g4 (fun b e=>e▸gone _ hC)) (fun ρ₁ hu=>?_) ((hl.at fun o e=>g3 _ _ e offD).at fun o e=>g4 _ _ e hDC) (((ra.grow g3 ownV).grow g4 fun b e=>.inr (.inl e)).to fun b k=>.inl (k.imp id .inr))
 refine (q3.sub (upd_up hu)).last (V:=fun b=>V b∨b=D) g4 (fun b k=>k.imp id .inr) (fun b e=>.inr (.inl e)) (fun b e k=>?_) (fun b k=>.inl (q.vok.1 b k)) (.inl q.own.1) fun y c e=>.inl (q.ownC y c e).1
 subst e
 exact k.elim nC fun e=>hDC e.symm
theorem ex_nb {t:Sem Flow} {x:Str} {xs:List PyData} (h1:NB S n env ρ σ t x xs σ₁) (hu:Upd x (.d (.list xs)) ρ ρ₁):Ex S n env ρ σ t (.next ρ₁ σ₁):=by
 constructor;intro V A s Q E rm q h
 refine h1 V A s Q E rm q fun a its h' tk hn g q1 hl ra=>h _ h' tk g ⟨rfl,?_⟩
 have q2:=q1 _ up_upd
 have nV:¬V a:=q.lost hn
 have q3:View S V env h' (up x (.v (.ref a)) ρ) σ₁:=q2.less (fun _u k=>.inl k) q.vok.1 q.own.1 fun x c e=>(q.ownC x c e).1
 obtain ⟨m,hm,hv⟩:=q3.fr
 refine ⟨q3.base,q3.vok,⟨m,hm,fun p hp=>?_⟩,q3.cl,q3.apart,q3.own,q3.ownC,q3.wd⟩
 rcases hu p hp with rfl | ⟨h1,h2⟩
 ·obtain ⟨v,r,k⟩:=hv _ (.head _)
  have r:_=_:=r
  subst r
  obtain ⟨mm,e⟩:=hl
  exact ⟨_,.list nV e ⟨rfl,rfl,rfl⟩ rfl (ra.to fun b k=>.inl (.inl k)),k⟩
 exact hv p (.tail _ (List.mem_filter.mpr ⟨h1,by simpa using h2⟩))
end rules
variable {B:Base} {R:Addr→Prop} {lo:∀ a,R a→B.h₁.get? a=none}
theorem lo_more {R:Addr→Prop} (lo:∀ a,R a→B.h₁.get? a=none) {a:Addr} (na:B.h₁.get? a=none):∀ b,(R b∨b=a)→B.h₁.get? b=none:=fun b k=>k.elim (lo b) fun e=>e▸na
theorem View.widen {V:Addr→Prop} {env:Env} {h:Heap} {ρ:List (Str × AV)} {σ:Sto} {a:Addr} {m:Mut} (q:View (B.sys R lo) V env h ρ σ) (na:B.h₁.get? a=none) (nR:¬R a) (nO:¬Own env a) (hV:V a) (r:MAt B.w V h a m) :
  View (B.sys (fun b=>R b∨b=a) (lo_more lo na)) V env h ρ (put σ a m):=by
 refine ⟨q.base,⟨fun b k=>k.elim (q.vok.1 b) fun e=>e▸hV,q.vok.2⟩,q.fr,q.cl,q.apart,⟨q.own.1,fun k=>k.elim q.own.2 fun e=>nO (.inl e.symm)⟩,fun y c e=>⟨(q.ownC y c e).1,fun k=>k.elim (q.ownC y c e).2.1 fun e'=>nO (.inr ⟨y,e'▸e⟩),(q.ownC y c e).2.2⟩,fun b k=>?_⟩
 by_cases e:b=a
 ·subst e;exact ⟨m,put_here,r⟩
 obtain ⟨m',e',r'⟩:=q.wd b (k.resolve_right e)
 exact ⟨m',(put_there e).trans e',r'⟩
theorem wd_narrow {w:World} {R V V':Addr→Prop} {h:Heap} {σ σ':Sto} {a:Addr} (wd:WdOf w (fun b=>R b∨b=a) V' h σ) (vv:∀ b,V b→V' b) (e:∀ b,R b→σ' b=σ b):WdOf w R V h σ':=fun b k=>by
 obtain ⟨m,e',r⟩:=wd b (.inl k)
 exact ⟨m,(e b k).trans e',r.to fun b k=>.inl (vv b k)⟩
noncomputable def NM (S:Sys) (n:Nat) (env:Env) (ρ:List (Str × AV)) (σ:Sto) (t:Sem Flow) (x:Str) (m:Mut) (σ₁:Sto):Prop:=
 ∀ (V:Addr→Prop) (A:Around) (s:Shared) (Q:Flow→Shared→Prop) (E:Value→Shared→Prop),Rn A n s.toks→View S V env s.heap ρ σ →
  (∀ a h' tk,s.heap.get? a=none→Grow (fun b=>S.R b∨Own env b) s.heap h'→(∀ ρ₁,Upd x (.v (.ref a)) ρ ρ₁→View S (fun b=>V b∨b=a) env h' ρ₁ σ₁)→MAt S.w (fun b=>V b∨b=a) h' a m→Q .next { s with heap:=h',toks:=tk }) →
  wpAny (model S.prog S.w) A t Q E s
theorem NB.nm {S:Sys} {n:Nat} {env:Env} {ρ:List (Str × AV)} {σ σ₁:Sto} {t:Sem Flow} {x:Str} {xs:List PyData} (h1:NB S n env ρ σ t x xs σ₁):NM S n env ρ σ t x (.list xs) σ₁:=
 fun V A s Q E rm q h=>h1 V A s Q E rm q fun a its h' tk hn g q1 hl ra=>h a h' tk hn g q1 ⟨its,hl,ra⟩
theorem nm_dict {S:Sys} {n:Nat} {env:Env} {ρ:List (Str × AV)} {σ:Sto} {nm:List (Str × NameKind)} {x:Str} {p pos' pos:Pos} (f:Fn env nm) (hb:Binds env x) (hs:swapsWith (.Dict [] [] p) (some (.Name x pos')) pos.line env=pure false:=by rfl) :
  NM S n env ρ σ (exec (.Assign [.Name x pos'] (.Dict [] [] p) pos) env) x (.dict []) σ:=by
 intro V A s Q E rm q h
 refine wpAny_Assign_Name (wpAny_Dict_empty ?_) hs
 have fr:s.heap.get? s.heap.objs.size=none:=none_size _ (Nat.le_refl _)
 have q1:View S (fun b=>V b∨b=s.heap.objs.size) env (s.heap.push { cls:=.type "dict",data:=.dict #[] }) ρ σ:=q.wide (Grow.push _ _) (fun _u k=>.inl k) fun b k=>k.imp id fun k=>by subst k;exact ⟨fr,_,Heap.get?_push_size _ rfl⟩
 refine bind_step (a:=.v (.ref s.heap.objs.size)) f hb up_upd q1 rfl fun h'' tk' g' q2=>?_
 have off:¬Own env s.heap.objs.size:=fun k=>by obtain ⟨_,o,e⟩:=q.ownLt k;rw [fr] at e;cases e
 exact h _ h'' tk' fr ((Grow.push _ _).trans (g'.mono fun _u k=>.inr k)) (fun ρ₁ hu=>q2.sub (upd_up hu)) ⟨⟨#[],0,g' _ _ (Heap.get?_push_size _ rfl) off,.nil⟩,⟨fun _u hp=>(by simp at hp),List.nodup_nil⟩⟩
theorem ex_promote {n:Nat} {env:Env} {ρ:List (Str × AV)} {σ σ₁ σ₂:Sto} {st:Stmt} {rest:List Stmt} {x:Str} {m:Mut} {c:AV} (h1:NM (B.sys R lo) n env ρ σ (exec st env) x m σ₁)
  (h:∀ a (na:B.h₁.get? a=none) (nR:¬R a),∃ ρ₁ σ',Upd x (.v (.ref a)) ρ ρ₁∧Ex (B.sys (fun b=>R b∨b=a) (lo_more lo na)) n env ρ₁ (put σ₁ a m) (execs rest env) (.ret c σ')∧∀ b,R b→σ₂ b=σ' b) :
  Ex (B.sys R lo) n env ρ σ (execs (st::rest) env) (.ret c σ₂):=by
 constructor;intro V A s Q E rm q hQ
 refine wpAny_execs_cons (wpAny_pos rm.pos (h1 V A s _ E rm q fun a h' tk hn g q1 hm p1=>?_))
 have nR:¬R a:=fun k=>by obtain ⟨o,e⟩:=(q.vok.2 a (q.vok.1 a k)).2;rw [hn] at e;cases e
 have nO:¬Own env a:=fun k=>by obtain ⟨_,o,e⟩:=q.ownLt k;rw [hn] at e;cases e
 have na:B.h₁.get? a=none:=by
  cases e:B.h₁.get? a with
  | none=>rfl
  | some o=>have:=q.base a o e;rw [hn] at this;cases this
 obtain ⟨ρ₁,σ',hu,h2,h3⟩:=h a na nR
 refine h2.run _ A _ Q E (rm.at p1) ((q1 ρ₁ hu).widen na nR nO (.inr rfl) hm) fun fl h'' tk' g' r'=>?_
 obtain ⟨v,rfl,rv,wd⟩:=r'
 refine hQ _ h'' tk' ?_ ⟨v,rfl,rv.to fun b k=>.inl (.inl k),wd_narrow wd (fun b k=>.inl k) h3⟩
 refine ((g.mono (Y:=fun b=>(R b∨Own env b)∨b=a) fun b k=>.inl k).trans (g'.mono fun b k=>?_)).drop fun b k=>?_
 ·rcases k with (k | k) | k
  exact .inl (.inl k);exact .inr k;exact .inl (.inr k)
 rcases k with k | k
 exact .inl k;exact .inr (k▸hn)
end
section
variable {B:Base} {R:Addr→Prop} {lo:∀ a,R a→B.h₁.get? a=none}
structure Obj' (R:Addr→Prop) (σ:Sto) (x C dx:Addr) (kvs:List (PyData × AV)):Prop where
 rx:R x
 ex:σ x=some (.raw ⟨.ref C,some dx,.plain,#[]⟩)
 rd:R dx
 ed:σ dx=some (.dict kvs)
noncomputable def strKeys (kvs:List (PyData × AV)):Bool:=kvs.all fun p=>match p.1 with | .str _=>true | _=>false
theorem key_str {k:PyData} (h:(match k with | .str _=>true | _=>false)=true):∃ y,k=.str y:=by
 split at h
 exact ⟨_,rfl⟩
 cases h
theorem entry_str {V:Addr→Prop} {h:Heap} {w:World} {es:List DictEntry} {kvs:List (PyData × AV)} {name:Str} (r:EntAll V h w es kvs) (hs:strKeys kvs=true) :
  match kvGet kvs (.str name) with
  | some av=>∃ v,getL name es=some (some v)∧VR V h v av
  | none=>getL name es=some none:=by
 have noRef:es.any (·.refKey)=false:=by
  induction r with
  | nil=>rfl
  | @cons e es k v kvs a b c r ih=>
   unfold strKeys at hs
   rw [List.all_cons,Bool.and_eq_true] at hs
   rw [List.any_cons,ih hs.2,Bool.or_false]
   obtain ⟨y,ey⟩:=key_str hs.1
   dsimp only at ey
   rw [ey] at a
   obtain ⟨t,et⟩:=a.ofStr
   unfold DictEntry.refKey
   rw [et]
 unfold getL
 rw [noRef]
 clear noRef
 induction r with
 | nil=>rfl
 | @cons e es k v kvs a b c r ih=>
  unfold strKeys at hs
  rw [List.all_cons,Bool.and_eq_true] at hs
  have ih:=ih hs.2
  unfold kvGet
  have he:e.key.isStr name=PyData.eqv k (.str name):=by
   obtain ⟨y,ey⟩:=key_str hs.1
   dsimp only at ey
   rw [ey] at a
   obtain ⟨t,et⟩:=a.ofStr
   rw [ey,et]
   simp [Value.isStr,PyData.eqv]
  rw [List.find?_cons,he]
  cases PyData.eqv k (.str name) with
  | true=>exact ⟨_,rfl,c⟩
  | false=>exact ih
theorem dictOf_of {h:Heap} {a:Addr} {es:Array DictEntry} {ep:Nat} (e:h.get? a=some { cls:=.type "dict",data:=.dict es ep }):h.get? a=some (dictOf es.toList ep):=by
 rw [e]
section
variable {n m:Nat} {env:Env} {ρ ρ₁ ρ₂:List (Str × AV)} {σ σ₁ σ₂ σ₃:Sto} {nm:List (Str × NameKind)} {x C dx:Addr} {kvs:List (PyData × AV)}
noncomputable def handedA:AV→Bool
 | .v v=>handedIn v
 | _=>true
theorem VR.handed {V:Addr→Prop} {h:Heap} {v:Value} {a:AV} (r:VR V h v a) (k:handedA a=true):handedIn v=true:=by
 cases a with
 | v x=>have r:_=_:=r;subst r;exact k
 | d d=>cases r <;> rfl
 | rg n=>obtain ⟨_,_,_,_,rfl,_⟩:=r;rfl
theorem ev_attr {K:Frag} (hK:K.In B.h₁) {o:Expr} {name:Str} {pos:Pos} {av:AV} (h0:Ev (B.sys R lo) n env ρ σ (eval o env) (.v (.ref x)) σ₁) (I:Obj' R σ₁ x C dx kvs) (hs:strKeys kvs=true) (hl:kvGet kvs (.str name)=some av) (ha:handedA av=true)
  (hg:plainGet K C name=true) (hh:hasDictIn K C=true) (hf:findIn K (.ref C) name=some none)
  (he:eval (.Attribute o name pos) env=(do
   let ov ← eval o env
   standAt pos.atName
   let r ← holding [ov] (getAttr ov name true)
   letTemporaryGo o ov r
   pure r):=by with_unfolding_all rfl):Ev (B.sys R lo) n env ρ σ (eval (.Attribute o name pos) env) av σ₁:=by
 constructor;intro V A s Q E rm q h
 refine Attribute_any_ (h0.run V A s _ E rm q fun v h' tk g q1 r=>?_) he
 have r:_=_:=r
 subst r
 have e1:=wd_raw q1.wd I.rx I.ex
 obtain ⟨⟨es,ep,e2,hr⟩,_⟩:=wd_dict q1.wd I.rd I.ed
 have:=entry_str (name:=name) hr hs
 rw [hl] at this
 obtain ⟨v,hv,rv⟩:=this
 have I':InstAt h' x ⟨.ref C,some dx,.plain,#[]⟩ C (some (dictOf es.toList ep)):=⟨e1,rfl,rfl,dictOf_of e2⟩
 exact PySem.W.get_value (hK.keeps q1.base) I' (plainGet_of hg).1 (findObj_own (attr:=none) hh hf rfl hv) (rv.handed ha) (h v h' _ g q1 rv)
theorem ev_methd {K:Frag} (hK:K.In B.h₁) {pl:Sem Bool} {o:Expr} {name:Str} {apos pos:Pos} {args:List Expr} {f:Addr} {of:Obj} {fd:FuncData} {c:AV} {as:List AV} (h0:Ev (B.sys R lo) n env ρ σ (eval o env) (.v (.ref x)) σ₁) (I:Obj' R σ₁ x C dx kvs) (hs:strKeys kvs=true)
  (hl:kvGet kvs (.str name)=none) (hg:plainGet K C name=true) (hf:findIn K (.ref C) name=some (some (.ref f))) (ht:isFn K (.ref f)=true) (hlf:K.lookup f=some of) (hd:of.data=.func fd)
  (h1:Evs (B.sys R lo) n env ρ σ₁ (spliced (backTo pos (starEach args env))) as σ₂) (h2:FS (B.sys R lo) m f (.v (.ref x)::as) σ₂ c σ₃) (hm:m≤n)
  (hst:(starEach args env).all (fun p=>!p.1)=true:=by rfl)
  (he:eval (.Call (.Attribute o name apos) args [] pos) env=(do
   let ov ← eval o env
   standAt apos.atName
   let (f,first) ← holding [ov] (getMethod ov name pl)
   callWith pos f first (backTo pos (starEach args env)) []):=by rfl) :
  Ev (B.sys R lo) n env ρ σ (eval (.Call (.Attribute o name apos) args [] pos) env) c σ₃:=by
 constructor;intro V A s Q E rm q h
 refine MethodCall_ (wpAny_pos rm.pos (h0.run V A s _ E rm q fun v h' tk g q1 r p1=>?_)) he
 have r:_=_:=r
 subst r
 have e1:=wd_raw q1.wd I.rx I.ex
 obtain ⟨⟨es,ep,e2,hr⟩,_⟩:=wd_dict q1.wd I.rd I.ed
 have:=entry_str (name:=name) hr hs
 rw [hl] at this
 have I':InstAt h' x ⟨.ref C,some dx,.plain,#[]⟩ C (some (dictOf es.toList ep)):=⟨e1,rfl,rfl,dictOf_of e2⟩
 refine PySem.W.method_fn (hK.keeps q1.base) I' (plainGet_of hg).1 (plainGet_of hg).2 hf (beq_iff_eq.mp ht) (by show (lookIn name (dictOf es.toList ep)).map _=_;rw [lookIn_dict,this];rfl) ?_
 dsimp only
 refine callWith_function (fd:=fd) (evalArgs_any (wpAny_pos p1 (h1.run V A _ _ E (rm.at p1) q1 fun vs h'' tk' g' q2 r2 p2=>⟨⟨q2.base _ _ (hK _ _ hlf),hd⟩,?_⟩)) hst)
 exact h2 V A _ _ Q E ((rm.at p2).le hm) q2.base q2.vok q2.wd (.cons rfl r2) fun v h3 tk3 g3 w3 r3=>h v h3 tk3 ((g.trans g').trans g3) (q2.world g3 w3) r3
end
end
section
theorem ints_are {V:Addr→Prop} {h:Heap}:∀ {ns:List Int} {vs:List Value},RdAll V h vs (ns.map .int)→IntsAre vs ns:=by
 intro ns
 induction ns with
 | nil=>intro vs r;cases r;exact .nil
 | cons n ns ih=>
  intro vs r
  cases r with
  | cons a b=>
   obtain ⟨t,rfl⟩:=Rd.ofInt a
   exact .cons n t (ih b)
theorem ints_back {V:Addr→Prop} {h:Heap}:∀ {ns:List Int} {vs:List Value},IntsAre vs ns→RdAll V h vs (ns.map .int):=by
 intro ns vs r
 induction r with
 | nil=>exact .nil
 | cons n t _ ih=>exact .cons (.int n t) ih
noncomputable def isort (ns:List Int):List Int:=ns.mergeSort fun a b=>decide (a≤b)
theorem isort_of {ns ns':List Int} (hp:ns'.Perm ns) (hs:ns'.Pairwise (·≤·)):ns'=isort ns:=by
 have h1:(isort ns).Pairwise (·≤·):=by
  have:=List.pairwise_mergeSort (le:=fun a b:Int=>decide (a≤b)) (fun a b c h1 h2=>by simp at *;walk_at "o") (fun a b=>by simp;walk_at "o") ns
  exact this.imp fun h=>by simpa using h
 exact (hp.trans (List.mergeSort_perm ns _).symm).eq_of_pairwise (fun a b _u _u h1 h2=>Int.le_antisymm h1 h2) hs h1
theorem isort_perm {a b:List Int}:isort a=isort b↔a.Perm b:=by
 constructor
 ·intro h
  have p1:(isort a).Perm a:=List.mergeSort_perm a _
  have p2:(isort b).Perm b:=List.mergeSort_perm b _
  exact p1.symm.trans (h▸p2)
 intro h
 have h1:(isort a).Pairwise (·≤·):=by
  have:=List.pairwise_mergeSort (le:=fun a b:Int=>decide (a≤b)) (fun a b c h1 h2=>by simp at *;walk_at "o") (fun a b=>by simp;walk_at "o") a
  exact this.imp fun h=>by simpa using h
 exact isort_of ((List.mergeSort_perm a _).trans h) h1
section
variable {prog:Program} {w:World} {A:Around} {E:Value→Shared→Prop} {s:Shared}
theorem sorted_any {l:Addr} {T:String} {o:Obj} {items:Array Value} {n:Nat} {ns:List Int} {Q:Value→Shared→Prop} (hT:T = "list"∨T = "tuple") (ho:s.heap.get? l=some o) (hc:o.cls=.type T) (hd:o.data=.seq items n) (hI:IntsAre items.toList ns) (h64:items.size<64)
  (h:∀ (h':Heap) (a:Addr) (out:Array Value) (e:Nat),IntsAre out.toList (isort ns)→Grow (fun _u=>False) s.heap h'→s.heap.get? a=none→h'.get? a=some { cls:=.type "list",data:=.seq out e }→Q (.ref a) { s with heap:=h' }) :
  wpAny (model prog w) A (call (.builtin "sorted") [.ref l]) Q E s:=by
 refine Calls.call_function_entry kind_sorted plain_sorted entry_sorted (args_sorted1 _) ?_
 unfold Builtin.«sorted»
 refine wpAny_bind (m:=checkCount "sorted" 1 1 _) (wpAny_pure ?_)
 refine wpAny_bind (wpAny_collect_seq (hsz:=Nat.le_trans (Nat.le_of_lt h64) (by decide)) l hT ho hc hd fun h' hk=>?_)
 refine wpAny_bind (wpAny_newList (hsz:=by rw [Array.length_toList];exact Nat.le_trans (Nat.le_of_lt h64) (by decide)) ?_)
 have hoL:(h'.push (seqObj "list" items.toList.toArray 0)).get? h'.objs.size=some (seqObj "list" items.toList.toArray 0):=Heap.get?_push_size _ rfl
 show wpAny _ _ _ _ _ { s with heap:=h'.push (seqObj "list" items.toList.toArray 0) }
 refine wpAny_bind (wpAny_holding (wpAny_call_entry slot_list_sort ⟨_,hoL,rfl⟩ entry_list_sort (list_sort_tree hoL hI (by simpa using h64) fun out ns' a1 a2 a3=>⟨_,rfl,?_⟩) (args_list_sort _)))
 obtain ⟨e,he⟩:=sortedHeap_at (out:=out) hoL
 refine wpAny_pure ⟨_,rfl,h _ h'.objs.size out e (isort_of a2 a3▸a1) (.of fun b o e=>?_) ?_ he⟩
 ·have hlt:b<h'.objs.size:=Heap.lt_size (hk b o e)
  rw [sortedHeap_old (Nat.ne_of_lt hlt) (by rw [size_push'];exact Nat.lt_succ_of_lt hlt),Heap.get?_push_ne _ _ _ (Nat.ne_of_lt hlt)]
  exact hk b o e
 cases e:s.heap.get? h'.objs.size with
 | none=>rfl
 | some o=>exact absurd (Heap.lt_size (hk _ o e)) (Nat.lt_irrefl _)
end
variable {S:Sys}
theorem off_of {V:Addr→Prop} {h h':Heap} (vk:VO S V h) {a:Addr} (n:h.get? a=none):¬V a:=fun k=>by
 obtain ⟨o,e⟩:=(vk _ k).2
 rw [n] at e;cases e
theorem blt_sorted_tuple {ns:List Int} (hz:ns.length<64):Blt S "sorted" [.d (.tuple (ns.map .int))] (.d (.list ((isort ns).map .int))):=by
 intro V A s vs Q E rm bs vk r h
 obtain ⟨v,rfl,r1⟩:=r.one
 refine Rd.ofTuple r1 fun a o its n na e c d ra ev=>?_
 subst ev
 refine sorted_any (.inr rfl) e c.1 d (ints_are ra) (by rw [ra.size,List.length_map];exact hz) fun h' b out k hi g hn hb=>h _ h' s.toks g (.list (off_of (h':=h') vk hn) hb ⟨rfl,rfl,rfl⟩ rfl (ints_back hi))
theorem opw_sorted {B:Base} {R:Addr→Prop} {lo:∀ a,R a→B.h₁.get? a=none} {σ:Sto} {a:Addr} {ns:List Int} (k:R a) (e:σ a=some (.list (ns.map .int))) (hz:ns.length<64) :
  OpW (B.sys R lo) σ [.v (.ref a)] (fun vs=>call (.builtin "sorted") vs) fun V h v=>VR V h v (.d (.list ((isort ns).map .int))):=by
 intro V A s vs Q E rm bs vk wd r h
 obtain ⟨v,rfl,rfl⟩:=r.one
 obtain ⟨its,⟨m,hl⟩,ra⟩:=wd_list wd k e
 refine sorted_any (.inl rfl) hl rfl rfl (ints_are ra) (by rw [ra.size,List.length_map];exact hz) fun h' b out k hi g hn hb=>h _ h' s.toks g (.list (off_of (h':=h') vk.2 hn) hb ⟨rfl,rfl,rfl⟩ rfl (ints_back hi))
theorem intItems_of {vs:List Value} {ns:List Int} (h:IntsAre vs ns):∃ xs:Array (Int × Tok),intItems xs=vs.toArray∧xs.toList.map (·.1)=ns:=by
 induction h with
 | nil=>exact ⟨#[],by simp [intItems],rfl⟩
 | cons n t _ ih=>
  obtain ⟨xs,h1,h2⟩:=ih
  refine ⟨((n,t)::xs.toList).toArray,?_,by simp [h2]⟩
  have:(intItems xs).toList=_:=congrArg Array.toList h1
  simp only [intItems,Array.toList_map] at this
  simp [intItems,this]
theorem preSum_sum (xs:Array (Int × Tok)):preSum (numAt xs) xs.size=(xs.toList.map (·.1)).sum:=by
 have:∀ n,n≤xs.size→preSum (numAt xs) n=((xs.toList.take n).map (·.1)).sum:=by
  intro n
  induction n with
  | zero=>intro _;simp [preSum]
  | succ n ih=>
   intro h
   have hlt:n<xs.toList.length:=by rw [Array.length_toList];exact h
   rw [preSum,ih (Nat.le_of_succ_le h),List.take_succ_eq_append_getElem hlt,List.map_append,List.sum_append]
   have:numAt xs n=xs.toList[n].1:=by
    unfold numAt
    rw [show xs[n]?=some xs.toList[n] by simp [Nat.lt_of_succ_le h]];rfl
   rw [this];simp
 rw [this _ (Nat.le_refl _),List.take_of_length_le (by simp)]
theorem blt_sum {ns:List Int}:Blt S "sum" [.d (.list (ns.map .int))] (.d (.int ns.sum)):=by
 intro V A s vs Q E rm bs vk r h
 obtain ⟨v,rfl,r1⟩:=r.one
 obtain ⟨a,its,rfl,na,hl,ra⟩:=Rd.isList r1
 obtain ⟨xs,h1,h2⟩:=intItems_of (ints_are ra)
 rw [show its.toList.toArray=its by simp] at h1
 rw [← h1] at hl
 refine sum_intListG rm.h hl fun h' tk t' k=>?_
 rw [preSum_sum,h2]
 exact h _ h' tk (.of k) (.int _ _)
noncomputable abbrev Typ (S:Sys) (b:String) (as:List AV) (c:AV):Prop:=Op S as (fun vs=>call (.type b) vs) fun V h v=>VR V h v c
theorem typ_tuple_list {xs:List PyData} (hz:xs.length≤1000000):Typ S "tuple" [.d (.list xs)] (.d (.tuple xs)):=by
 intro V A s vs Q E rm bs vk r h
 obtain ⟨v,rfl,r1⟩:=r.one
 obtain ⟨a,its,rfl,na,hl,ra⟩:=Rd.isList r1
 refine call_tuple_list hl (fun h' hk=>?_) (by rw [ra.size];exact Nat.le_trans hz (by decide))
 have g1:Grow (fun _u=>False) s.heap h':=.of hk
 have n:s.heap.get? h'.objs.size=none:=by
  cases e:s.heap.get? h'.objs.size with
  | none=>rfl
  | some o=>exact absurd (Heap.lt_size (hk _ o e)) (Nat.lt_irrefl _)
 exact h _ _ s.toks (g1.trans (Grow.push _ _)) (.tuple (off_of (h':=h') vk n) (Heap.get?_push_size _ rfl) ⟨rfl,rfl,rfl⟩ rfl (ra.grow (g1.trans (Grow.push _ _)) fun _u k=>k.elim))
theorem typ_range {k:Nat}:Typ S "range" [.d (.int k)] (.rg k):=by
 intro V A s vs Q E rm bs vk r h
 obtain ⟨v,rfl,r1⟩:=r.one
 obtain ⟨t,rfl⟩:=Rd.ofInt r1
 exact call_range_1 (h _ _ _ (Grow.push _ _) ⟨_,_,_,_,rfl,fresh_off vk,Heap.get?_push_size _ rfl⟩)
theorem bin_rep {xs:List PyData} {k:Nat} (hz:xs.length*k≤2 ^ 24) (hk:k<2 ^ 60):Bin S .Mult (.d (.list xs)) (.d (.int k)) (.d (.list (List.replicate k xs).flatten)):=by
 intro V A s vs Q E rm bs vk r h
 obtain ⟨v,u,rfl,r1,r2⟩:=r.two
 obtain ⟨u,rfl⟩:=Rd.ofInt r2
 refine Rd.ofList r1 fun l o its n na e c d ra ev=>?_
 subst ev
 obtain ⟨cls,dd,data,sl⟩:=o
 simp only at c d
 obtain ⟨rfl,rfl,rfl⟩:=c
 subst d
 have hsz':its.size*(k:Int).toNat≤2 ^ 24:=by rw [ra.size];simpa using hz
 obtain ⟨x,hx⟩:∃ x:Int,x=k:=⟨_,rfl⟩
 rw [← hx] at hsz' ⊢
 have hlo:-(2 ^ 63:Int)≤x:=by rw [hx];walk_at "o"
 have hhi:x<2 ^ 63:=by rw [hx];walk_at "o"
 have f1:¬(!Builtin.List.listFitsIndex x)=true:=by simp [Builtin.List.listFitsIndex];walk_at "o"
 have f2:¬its.size*x.toNat > (2 ^ 63 - 1) / 8:=by walk_at "o"
 have f3:¬(Builtin.List.listTooLong (its.size*x.toNat))=true:=by simp [Builtin.List.listTooLong,sizeLine];walk_at "o"
 refine wpAny_binaryOp_repeat_ref (T:="list") (U:="int") (by decide) ⟨_,e,rfl⟩ (fun s'=>typeIs_int s' _ u) noFill_list_mul F.fills_int_mul F.slot_int_rmul repeat_list F.slot_int_index.lookup
  (call_meets F.slot_int_rmul (typeIs_int s _ u) F.entry_int_rmul (F.args_int_rmul_2 _ _) (lm_int_rmul_list_any _ u l its n none #[])
   ⟨e,rfl,⟨_,e,rfl⟩,call_meets F.slot_list_mul ⟨_,e,rfl⟩ F.entry_list_mul (F.args_list_mul_2 _ _)
    (lm_list_mul_any l its n none #[] x u f1 f2 f3)
    ⟨e,?_⟩⟩)
 refine h _ _ s.toks (Grow.push _ _) (.list (fresh_off vk) (Heap.get?_push_size _ rfl) ⟨rfl,rfl,rfl⟩ rfl (RdAll.grow (Grow.push (X:=fun _u=>False) _ _) (fun _u k=>k.elim) ?_))
 rw [listMul_foldl_if]
 have rep:∀ (j:Nat),RdAll V s.heap (List.replicate j its.toList).flatten (List.replicate j xs).flatten:=fun j=>by
  induction j with
  | zero=>exact .nil
  | succ j ih=>rw [List.replicate_succ,List.replicate_succ,List.flatten_cons,List.flatten_cons];exact ra.append ih
 have:x.toNat=k:=by walk_at "o"
 rw [this]
 simpa using rep k
end
section
variable {S:Sys}
theorem typ_tuple_tuple {xs:List PyData}:Typ S "tuple" [.d (.tuple xs)] (.d (.tuple xs)):=by
 intro V A s vs Q E rm bs vk r h
 obtain ⟨v,rfl,r1⟩:=r.one
 have r2:=r1
 obtain ⟨a,its,rfl,na,ht,ra⟩:=Rd.isTuple r1
 exact call_tuple_tup ht (h _ s.heap s.toks (Grow.refl _ _) r2)
theorem lay_mem:∀ {xs:List PyData} {y:PyData},PyData.canLayAll0 xs=true→y∈xs→y.canLay0=true
 | x::xs,y,hx,hy=>by
  simp only [PyData.canLayAll0,Bool.and_eq_true] at hx
  rcases List.mem_cons.mp hy with rfl | hy
  exact hx.1;exact lay_mem hx.2 hy
noncomputable def idxE (xs:List PyData) (d:PyData):Nat:=xs.findIdx fun y=>PyData.eqv y d
theorem act_index {σ:Sto} {xs:List PyData} {d:PyData} (hx:PyData.canLayAll0 xs=true) (hd:d.canLay0=true) (hz:d.depth≤60) (hl:xs.length≤1000000) (hin:(xs.any fun y=>PyData.eqv y d)=true) :
  Act S 0 [.d (.list xs),.d d] σ (fun vs=>call (.builtin "list.index") vs) (.d (.int (idxE xs d))) σ:=by
 refine Act.of (op ?_)
 intro V A s vs Q E rm bs vk r h
 obtain ⟨v,u,rfl,r1,r2⟩:=r.two
 refine Rd.ofList r1 fun l o its n na e c dd ra ev=>?_
 subst ev
 obtain ⟨cls,dct,data,sl⟩:=o
 simp only at c dd
 obtain ⟨rfl,rfl,rfl⟩:=c
 subst dd
 have hlen:=ra.length
 rw [Array.length_toList] at hlen
 have hj:idxE xs d<xs.length:=List.findIdx_lt_length_of_exists (by simpa using hin)
 obtain ⟨_,qd⟩:=Rd.reads hd r2
 have lay:∀ y∈xs,y.canLay0=true:=fun y hy=>lay_mem hx hy
 let ev:Value→Bool:=fun v=>@decide (∃ y∈xs,Rd V s.heap v y∧PyData.eqv y d=true) (Classical.propDecidable _)
 have evR:∀ {v:Value} {y:PyData},y∈xs→Rd V s.heap v y→ev v=PyData.eqv y d:=fun {v y} hy ry=>by
  show @decide _ (Classical.propDecidable _)=_
  cases hq:PyData.eqv y d with
  | true=>exact @decide_eq_true _ (Classical.propDecidable _) ⟨y,hy,ry,hq⟩
  | false=>
   refine @decide_eq_false _ (Classical.propDecidable _) ?_
   rintro ⟨y',hy',ry',hq'⟩
   rw [Rd.inj (lay y' hy') (lay y hy) ry' ry] at hq';rw [hq] at hq';cases hq'
 have at':∀ {i:Nat} (hi:i<its.size),∃ y,xs[i]?=some y∧Rd V s.heap its[i] y:=fun {i} hi=>by
  have hi':i<xs.length:=by walk_at "o"
  obtain ⟨y,hy,ry⟩:=ra.at (List.getElem?_eq_getElem hi')
  rw [Array.getElem?_eq_getElem hi] at hy
  cases hy
  exact ⟨_,List.getElem?_eq_getElem hi',ry⟩
 refine call_meets PySem.F.slot_list_index ⟨_,e,rfl⟩ PySem.F.entry_list_index (PySem.F.args_list_index_2 _ _)
  (SeqAt.list_indexAt l its n none #[] u ev (idxE xs d) (by walk_at "o") (by walk_at "o") ?_ ?_) ⟨e,fun y hy=>?_,h _ s.heap _ (Grow.refl _ _) (.int _ _)⟩
 ·obtain ⟨y,hy,ry⟩:=at' (i:=idxE xs d) (by walk_at "o")
  rw [evR (List.mem_of_getElem? hy) ry]
  have:=List.findIdx_getElem (xs:=xs) (p:=fun y=>PyData.eqv y d) (w:=hj)
  rw [List.getElem?_eq_getElem hj] at hy
  cases hy
  exact this
 ·intro j hjs hlt
  obtain ⟨y,hy,ry⟩:=at' hjs
  rw [evR (List.mem_of_getElem? hy) ry]
  have hj':j<xs.length:=by walk_at "o"
  have:=List.not_of_lt_findIdx (p:=fun y=>PyData.eqv y d) (xs:=xs) hlt
  rw [List.getElem?_eq_getElem hj'] at hy
  cases hy
  simpa using this
 obtain ⟨i,hi,rfl⟩:=Array.mem_iff_getElem.mp hy
 obtain ⟨y,hy',ry⟩:=at' hi
 have hm:=List.mem_of_getElem? hy'
 rw [evR hm ry]
 obtain ⟨_,qy⟩:=Rd.reads (lay y hm) ry
 refine SeqAt.eqAt_reads y d A.in1 s _ _ _ _ qy qd (lay y hm) hd ?_
 have:=rm.units
 have:min y.depth d.depth≤60:=Nat.le_trans (Nat.min_le_right _ _) hz
 show A.units+1+_<_
 walk_at "o"
section rules
variable {n:Nat} {env:Env} {ρ ρ₁ ρ₂ ρc:List (Str × AV)} {σ σ₁ σ₂ σ₃:Sto} {nm:List (Str × NameKind)}
theorem tr_chain {l r₁ r₂:Expr} {op₁ op₂:CmpOp} {pos:Pos} {whole:Sem Value} {a b c:AV} {b₁ b₂:Bool} (h1:Ev S n env ρ σ (eval l env) a σ₁) (h2:Ev S n env ρ σ₁ (eval r₁ env) b σ₂) (c1:Cmp S op₁ a b (.d (.bool b₁)))
  (h3:b₁=true→Ev S n env ρ σ₂ (eval r₂ env) c σ₃) (c2:b₁=true→Cmp S op₂ b c (.d (.bool b₂))) (h4:b₁=false→σ₃=σ₂)
  (hm:lastMarks [op₁,op₂] [r₁,r₂]=false:=by with_unfolding_all rfl):Tr S n env ρ σ (isTrue (.Compare l [op₁,op₂] [r₁,r₂] pos) env whole) (b₁&&b₂) σ₃:=by
 constructor;intro V A s Q E rm q h
 refine isTrue_chain (wpAny_pos rm.pos (h1.run V A s _ E rm q fun v ha ta ga qa ra pa=>test_link (wpAny_pos pa (h2.run V A _ _ E (rm.at pa) qa fun u hb tb gb qb rb pb=>?_)))) hm
 refine wpAny_pos pb ((op c1:OpW S σ₂ _ _ _) V A _ [v,u] _ E ((rm.at pb).le (Nat.zero_le _)) qb.base qb.vok qb.wd (.cons (ra.grow gb qa.vok.1) (.cons rb .nil)) fun x hc tc gc rc pc=>?_)
 have qc:View S V env hc ρ σ₂:=qb.more gc
 obtain rfl:=Rd.ofBool rc
 refine wpAny_truthy_bool ?_
 have gg:Grow S.R s.heap hc:=(ga.trans gb).trans gc.none
 cases b₁ with
 | false=>
  have e:=h4 rfl
  subst e
  exact h _ hc tc gg qc rfl
 | true=>
  simp only [if_true]
  refine test_last (wpAny_pos pc ((h3 rfl).run V A _ _ E (rm.at pc) qc fun y hd td gd qd rd pd=>?_))
  refine (op (c2 rfl):OpW S σ₃ _ _ _) V A _ [u,y] _ E ((rm.at pd).le (Nat.zero_le _)) qd.base qd.vok qd.wd (.cons ((rb.more gc).grow gd qc.vok.1) (.cons rd .nil)) fun z he te ge re=>?_
  obtain rfl:=Rd.ofBool re
  exact wpAny_truthy_bool (h _ he te ((gg.trans gd).trans ge.none) (qd.more ge) rfl)
theorem ev_fstr {x y:Str} {k k':Nat} {p p' p'' pos:Pos} {e:Expr} {i:Int} (h1:Ev S n env ρ σ (eval e env) (.d (.int i)) σ₁) (hi:i.natAbs.log2<1920) (hz:(Str.empty++x++Str.ofString (toString i)++y).length≤sizeLine) :
  Ev S n env ρ σ (eval (.JoinedStr [.Constant (.str x) k p,.FormattedValue e (-1) none p',.Constant (.str y) k' p''] pos) env) (.d (.str (Str.empty++x++Str.ofString (toString i)++y))) σ₁:=by
 constructor;intro V A s Q E rm q h
 have z2:(Str.empty++x++Str.ofString (toString i)).length≤sizeLine:=by rw [strLen_append] at hz;walk_at "o"
 have z1:(Str.empty++x).length≤sizeLine:=by rw [strLen_append] at z2;walk_at "o"
 refine JoinedStr_many (joinParts_cons (wpAny_Constant_str ⟨z1,joinParts_cons (FormattedValue_plain (h1.run V A _ _ E (rm.at (Nat.succ_pos _)) q fun v h' tk g q1 r=>?_))⟩))
 obtain ⟨t,rfl⟩:=Rd.ofInt r
 exact formatField_int_small hi ⟨z2,joinParts_cons (wpAny_Constant_str ⟨hz,joinParts_nil (h _ h' _ g q1 (.str _ _)) hz⟩)⟩
end rules
end
section
section
variable {prog:Program} {w:World} {A:Around} {E:Value→Shared→Prop} {R:Result→Shared→Prop} {s:Shared}
theorem compTurn_two (elt t0 i0 t1 i1:Expr) (scope:Scope) (pos:Pos) (it acc:Value) (env:Env) :
  compTurn (.ListComp elt [⟨t0,i0,[],0⟩,⟨t1,i1,[],0⟩] scope pos) 0 it acc env=(do
   standAt i0.pos
   match ← pyNext it with
   | none=>pure (.done .next)
   | some v=>
    letOwnedTupleGo t0 it v
    assign t0 env v
    let x ← eval i1 env
    standAt i1.pos
    let x ← foldedSetIterable i1 env x
    let _ ← runOwn (.compStart (.ListComp elt [⟨t0,i0,[],0⟩,⟨t1,i1,[],0⟩] scope pos) 1 (← holding [x] (pyIter x)) acc env) env
    again (.compLoop (.ListComp elt [⟨t0,i0,[],0⟩,⟨t1,i1,[],0⟩] scope pos) 0 it acc env)):=by rfl
theorem compTurn_inner (elt t0 i0 t1 i1:Expr) (scope:Scope) (pos:Pos) (it acc:Value) (env:Env) :
  compTurn (.ListComp elt [⟨t0,i0,[],0⟩,⟨t1,i1,[],0⟩] scope pos) 1 it acc env=(do
   standAt i1.pos
   match ← pyNext it with
   | none=>pure (.done .next)
   | some v=>
    letOwnedTupleGo t1 it v
    assign t1 env v
    (do let _ ← call (.builtin "list.append") [acc,← eval elt env])
    again (.compLoop (.ListComp elt [⟨t0,i0,[],0⟩,⟨t1,i1,[],0⟩] scope pos) 1 it acc env)):=by rfl
theorem codeAny_two {elt t0 i0 t1 i1:Expr} {scope:Scope} {pos:Pos} {it acc:Value} {env:Env} (I:Nat→Shared→Prop)
  (turn:∀ n s,I n s→wpAny (model prog w) A (pyNext it) (fun r s₁=>match r with
   | none=>R (.ok .next) s₁
   | some v=>wpAny (model prog w) A (assign t0 env v) (fun _u s₂=>wpAny (model prog w) A (eval i1 env) (fun x s₃=>wpAny (model prog w) A (pyIter x) (fun it' s₄=>
     codeAny (model prog w) A (.compStart (.ListComp elt [⟨t0,i0,[],0⟩,⟨t1,i1,[],0⟩] scope pos) 1 it' acc env) (fun r s₅=>match r with
      | .ok _=>∃ m,m<n∧I m s₅
      | .error e=>cameBackBy (model prog w) A env (notedBy (model prog w) A env fun e s'=>R (.error e) s') e s₅) s₄)
     (notedBy (model prog w) A env fun e s'=>R (.error e) s') s₃) (notedBy (model prog w) A env fun e s'=>R (.error e) s') s₂) (notedBy (model prog w) A env fun e s'=>R (.error e) s') s₁) (notedBy (model prog w) A env fun e s'=>R (.error e) s') s)
  (n:Nat) (h:I n s) (ht:∀ v,letOwnedTupleGo t0 it v=pure ():=by intro _;rfl) (hs:∀ x,foldedSetIterable i1 env x=pure x:=by intro _;rfl) :
  codeAny (model prog w) A (.compLoop (.ListComp elt [⟨t0,i0,[],0⟩,⟨t1,i1,[],0⟩] scope pos) 0 it acc env) R s:=by
 refine codeAny_loop rfl I (fun n s hI=>?_) n h
 show wpAny _ A ((compTurn (.ListComp elt [⟨t0,i0,[],0⟩,⟨t1,i1,[],0⟩] scope pos) 0 it acc env).onRaise (fun x=>do noteFrame x env;theTreesLotGoes x)) _ _ s
 refine wpAny_noted ?_
 rw [compTurn_two]
 refine wpAny_bind (wpAny_standAt (wpAny_bind (wpAny_mono (turn n s hI) (fun r s₁ h₁=>?_) fun _u _u h'=>h')))
 cases r with
 | none=>exact wpAny_pure h₁
 | some v=>
  refine wpAny_bind (wpAny_of_eq (ht v) ?_)
  refine wpAny_bind (wpAny_mono h₁ (fun _u s₂ h₂=>wpAny_bind (wpAny_mono h₂ (fun x s₃ h₃=>wpAny_bind (wpAny_standAt (wpAny_bind (wpAny_of_eq (hs x) (wpAny_bind (wpAny_holding (wpAny_mono h₃ (fun it' s₄ h₄=>?_) fun _u _u h'=>h'))))))) fun _u _u h'=>h')) fun _u _u h'=>h')
  refine wpAny_bind (wpAny_runOwn (codeAny_mono h₄ fun r s₅ hr=>?_))
  cases r with
  | ok f=>exact wpAny_pure ⟨rfl,hr⟩
  | error e=>exact hr
theorem codeAny_inner {elt t0 i0 t1 i1:Expr} {scope:Scope} {pos:Pos} {it acc:Value} {env:Env} (I:Nat→Shared→Prop)
  (turn:∀ n s,I n s→wpAny (model prog w) A (pyNext it) (fun r s₁=>match r with
   | none=>R (.ok .next) s₁
   | some v=>wpAny (model prog w) A (assign t1 env v) (fun _u s₂=>wpAny (model prog w) A (eval elt env) (fun x s₃=>
     wpAny (model prog w) A (call (.builtin "list.append") [acc,x]) (fun _u s₄=>∃ m,m<n∧I m s₄) (notedBy (model prog w) A env fun e s'=>R (.error e) s') s₃)
     (notedBy (model prog w) A env fun e s'=>R (.error e) s') s₂) (notedBy (model prog w) A env fun e s'=>R (.error e) s') s₁) (notedBy (model prog w) A env fun e s'=>R (.error e) s') s)
  (n:Nat) (h:I n s) (ht:∀ v,letOwnedTupleGo t1 it v=pure ():=by intro _;rfl) :
  codeAny (model prog w) A (.compLoop (.ListComp elt [⟨t0,i0,[],0⟩,⟨t1,i1,[],0⟩] scope pos) 1 it acc env) R s:=by
 refine codeAny_loop rfl I (fun n s hI=>?_) n h
 show wpAny _ A ((compTurn (.ListComp elt [⟨t0,i0,[],0⟩,⟨t1,i1,[],0⟩] scope pos) 1 it acc env).onRaise (fun x=>do noteFrame x env;theTreesLotGoes x)) _ _ s
 refine wpAny_noted ?_
 rw [compTurn_inner]
 refine wpAny_bind (wpAny_standAt (wpAny_bind (wpAny_mono (turn n s hI) (fun r s₁ h₁=>?_) fun _u _u h'=>h')))
 cases r with
 | none=>exact wpAny_pure h₁
 | some v=>
  refine wpAny_bind (wpAny_of_eq (ht v) ?_)
  exact wpAny_bind (wpAny_mono h₁ (fun _u s₂ h₂=>wpAny_bind (wpAny_bind (wpAny_mono h₂ (fun x s₃ h₃=>wpAny_bind (wpAny_mono h₃
   (fun _u s₄ h₄=>wpAny_pure (wpAny_pure ⟨rfl,h₄⟩)) fun _u _u h'=>h')) fun _u _u h'=>h'))) fun _u _u h'=>h')
theorem codeAny_start_inner {elt t0 i0 t1 i1 scope pos it acc env}
  (h0:codeAny (model prog w) A (.compLoop (.ListComp elt [⟨t0,i0,[],0⟩,⟨t1,i1,[],0⟩] scope pos) 1 it acc env) R s)
  (h:wpAny (model prog w) A (pyIter it) (fun it' s'=>codeAny (model prog w) A (.compLoop (.ListComp elt [⟨t0,i0,[],0⟩,⟨t1,i1,[],0⟩] scope pos) 1 it' acc env) R s')
   (notedBy (model prog w) A env fun x s'=>R (.error x) s') s) :
  codeAny (model prog w) A (.compStart (.ListComp elt [⟨t0,i0,[],0⟩,⟨t1,i1,[],0⟩] scope pos) 1 it acc env) R s:=by
 refine codeAny_of_tree ?_
 show wpAny _ _ ((compStart (.ListComp elt [⟨t0,i0,[],0⟩,⟨t1,i1,[],0⟩] scope pos) 1 it acc env).onRaise (fun x=>do noteFrame x env;standAt theWindowsPlace)) _ _ s
 refine wpAny_notedAt ?_
 unfold compStart
 show wpAny _ _ (ask >>= _) _ _ s
 refine wpAny_bind (wpAny_askSetting (wpAny_ite ?_))
 split
 ·first
   | exact wpAny_bind (wpAny_pure (wpAny_pure (And.intro rfl h0)))
   | exact wpAny_pure (And.intro rfl h0)
 first
  | exact wpAny_bind (wpAny_rule (wpAny_bind (wpAny_standAt (wpAny_bind (wpAny_mono h (fun it' s' h'=>wpAny_pure (And.intro rfl h')) fun _u _u x=>x)))))
  | (refine wpAny_bind (wpAny_rule ?_);show wpAny _ _ (standAt i1.pos >>= _) _ _ s;exact wpAny_bind (wpAny_standAt (wpAny_bind (wpAny_mono h (fun it' s' h'=>wpAny_pure (And.intro rfl h')) fun _u _u x=>x))))
end
end
section
variable {S:Sys}
inductive CT2 (S:Sys) (n:Nat) (nm:List (Str × NameKind)) (x:Str) (iter2:Expr) (ρ:List (Str × AV)):List PyData→Sto→List PyData→Sto→Prop
 | nil {σ}:CT2 S n nm x iter2 ρ [] σ [] σ
 | cons {d ds yl ys σ σ₁ σ₂}:(∀ env,Fn env nm→Ev S n env ((x,.d d)::ρ) σ (eval iter2 env) (.d (.list yl)) σ₁)→CT2 S n nm x iter2 ρ ds σ₁ ys σ₂→CT2 S n nm x iter2 ρ (d::ds) σ (yl++ys) σ₂
theorem CT2.elim {n:Nat} {nm:List (Str × NameKind)} {x:Str} {iter2:Expr} {ρ:List (Str × AV)} {d:PyData} {ds zs:List PyData} {σ τ:Sto} {P:Prop} (h:CT2 S n nm x iter2 ρ (d::ds) σ zs τ)
  (h1:∀ yl ys σ₁,(∀ env,Fn env nm→Ev S n env ((x,.d d)::ρ) σ (eval iter2 env) (.d (.list yl)) σ₁)→CT2 S n nm x iter2 ρ ds σ₁ ys τ→zs=yl++ys→P):P:=by
 cases h with
 | cons a b=>exact h1 _ _ _ a b rfl
theorem CT2.fin {n:Nat} {nm:List (Str × NameKind)} {x:Str} {iter2:Expr} {ρ:List (Str × AV)} {zs:List PyData} {σ τ:Sto} (h:CT2 S n nm x iter2 ρ [] σ zs τ):zs=[]∧σ=τ:=by
 cases h;exact ⟨rfl,rfl⟩
inductive CmpO (S:Sys) (n:Nat) (nm:List (Str × NameKind)) (x:Str) (iter2:Expr) (ρc:List (Str × AV)) (items ys:List PyData) (τ:Sto) (V:Addr→Prop) (env:Env) (X:Addr→Prop) (D:Addr) (St:Nat→Heap→Prop) (h0:Heap) (s:Shared) (k:Nat) (s':Shared):Prop
 | mk (i:Nat) (σ:Sto) (yi yr:List PyData) (arr:Array Value) (h:Heap) (tk:Nat) (es:s' = { s with heap:=h,toks:=tk }) (q:View S V env h ρc σ) (st:St i h) (hD:h.PlainList D arr) (r:RdAll V h arr.toList yi) (ct:CT2 S n nm x iter2 ρc (items.drop i) σ yr τ) (ey:ys=yi++yr)
   (g:Grow X h0 h) (le:i≤items.length) (ek:k=items.length+1 - i) (p:0<tk):CmpO S n nm x iter2 ρc items ys τ V env X D St h0 s k s'
inductive CmpN (S:Sys) (ρ:List (Str × AV)) (σ:Sto) (yi yl:List PyData) (V:Addr→Prop) (env:Env) (X:Addr→Prop) (D:Addr) (St:Nat→Heap→Prop) (h0:Heap) (s:Shared) (k:Nat) (s':Shared):Prop
 | mk (j:Nat) (arr:Array Value) (h:Heap) (tk:Nat) (es:s' = { s with heap:=h,toks:=tk }) (q:View S V env h ρ σ) (st:St j h) (hD:h.PlainList D arr) (r:RdAll V h arr.toList (yi++yl.take j)) (g:Grow X h0 h) (le:j≤yl.length) (ek:k=yl.length+1 - j) (p:0<tk):CmpN S ρ σ yi yl V env X D St h0 s k s'
theorem two_len {ys yi yr yl yr':List PyData} (hys:ys=yi++yr) (e:yr=yl++yr') (hz:ys.length≤100000):yi.length+yl.length≤100000:=by
 have:ys.length=yi.length+(yl.length+yr'.length):=by rw [hys,e,List.length_append,List.length_append]
 walk_at "o"
theorem take_len {yi yl:List PyData} {j m:Nat} (e:m=(yi++yl.take j).length) (hz:yi.length+yl.length≤100000):m≤100000:=by
 rw [e,List.length_append,List.length_take];walk_at "o"
theorem comp2_block {n:Nat} {env:Env} {ρ ρc:List (Str × AV)} {σ₁ σ₂:Sto} {nm:List (Str × NameKind)} {x y:Str} {px py yp pos:Pos} {iter iter2:Expr} {scope:Scope} {a:AV} {items ys:List PyData} (f:Fn env nm)
  (hfree:∀ p∈scope.names,p.2=.free→∃ c,env.cells.lookup p.1=some c) (hnd:(scope.names.map (·.1)).Nodup) (hcell:∀ y∈scope.names,y.2≠.cell) (hkind:scope.kind=.function)
  (hx:scope.names.lookup x=some .local) (hy:scope.names.lookup y=some .local) (hxy:x≠y) (hdy:(y == ("__debug__" : Str))=false) (hρ:∀ p∈ρc,p∈ρ∧scope.names.lookup p.1=some .free∧nm.lookup p.1=some .cell∧p.1≠x∧p.1≠y) (hi:IterOf S a items)
  (ct:CT2 S n (relab nm scope.names) x iter2 ρc items σ₁ ys σ₂) (hz:items.length≤1000000) (hz':ys.length≤100000) (hfs:∀ env x,foldedSetIterable iter2 env x=pure x) {V:Addr→Prop} {A:Around} {s:Shared} {v:Value} (rm:Rn A n s.toks) (q0:View S V env s.heap ρ σ₁) (r0:VR V s.heap v a)
  {RR:Value→Addr→Result→Shared→Prop} {E:Value→Shared→Prop}
  (h:∀ D C its h' tk m,s.heap.get? D=none→s.heap.get? C=none→¬D=C→Grow S.R s.heap h'→View S (fun a=>V a∨a=C∨a=D) env h' ρ σ₂→h'.PlainList D its→RdAll (fun a=>V a∨a=C∨a=D) h' its.toList ys→h'.Ns C m→RR (.ref D) C (.ok .next) { s with heap:=h',toks:=tk }) :
  wpAny (model S.prog S.w) A (pyIter v) (fun it s₂=>wpAny (model S.prog S.w) A (newList []) (fun acc s₃=>wpAny (model S.prog S.w) A (newFunctionEnv scope env.globals (closOf env.cells scope.names []) [] env.qual none .none (some env)) (fun cenv s₄=>
   codeAny (model S.prog S.w) A (.compStart (.ListComp (.Name y yp) [⟨.Name x px,iter,[],0⟩,⟨.Name y py,iter2,[],0⟩] scope pos) 0 it acc { cenv with scope:=relabel scope env }) (RR acc cenv.locals) s₄) E s₃) E s₂) E s:=by
 refine wpAny_pos rm.pos (hi V A s v _ E rm.h q0.vok r0 fun I fp wr P St h1 tk1 g1 W hst hwr hwx hfp hP pz=>?_)
 have pz:0<tk1:=pz
 refine wpAny_newObj_type (wpAny_newFunctionEnv hcell (by intro y hy;simp at hy) (fun h2 hns hsb=>?_) hkind)
 dsimp only at g1 hwr hfp hP hns hsb ⊢
 generalize hD:h1.objs.size=D at hns hsb ⊢
 generalize hH2:h1.push { cls:=.type "list",dict:=none,data:=.seq ([]:List Value).toArray }=H2 at hns hsb ⊢
 generalize hC:H2.objs.size=C at hns hsb ⊢
 have eC:C=D+1:=by rw [← hC,← hH2,Heap.size_push,hD]
 have ltDC:D<C:=eC▸Nat.lt_succ_self D
 have noC:∀ b:Addr,b<D→¬b=C:=fun b k=>Nat.ne_of_lt (Nat.lt_trans k ltDC)
 have noD:∀ b:Addr,b<D→¬b=D:=fun b k=>Nat.ne_of_lt k
 have nDC:¬D=C:=Nat.ne_of_lt ltDC
 have nCD:¬C=D:=fun e=>nDC e.symm
 have lt1:∀ b o,h1.get? b=some o→b<D:=fun b o e=>hD▸Heap.lt_size e
 have k1:∀ b o,h1.get? b=some o→h2.get? b=some o:=fun b o e=>hsb.extBut b o (noC b (lt1 b o e)) (Heap.get?_push_of_some _ (hH2▸Heap.get?_push_of_some _ e))
 have g02:Grow (fun _u=>False) s.heap h2:=g1.trans (.of k1)
 have old:∀ b o,s.heap.get? b=some o→b<D:=fun b o e=>lt1 b o (g1 b o e fun k=>k)
 have Dn:s.heap.get? D=none:=by cases e:s.heap.get? D with | none=>rfl | some o=>exact absurd (old D o e) (Nat.lt_irrefl _)
 have Cn:s.heap.get? C=none:=by cases e:s.heap.get? C with | none=>rfl | some o=>exact absurd rfl (noC C (old C o e))
 have wrLt:∀ b∈wr,b<D:=fun b hb=>let ⟨o,e⟩:=(hwr b hb).2;lt1 b o e
 have fpLt:∀ b∈fp,b<D:=fun b hb=>(hfp b hb).elim (wrLt b) fun ⟨_,o,e⟩=>old b o e
 have Dx:h2.PlainList D #[]:=⟨_,hsb.extBut _ _ nDC (Heap.get?_push_of_some _ (by rw [← hH2,← hD];exact Heap.get?_push_size _ rfl))⟩
 have noV:∀ b,s.heap.get? b=none→¬V b:=fun b e k=>by obtain ⟨o,e'⟩:=(q0.vok.2 b k).2;rw [e] at e';cases e'
 have noR:∀ b,s.heap.get? b=none→¬S.R b:=fun b e k=>noV b e (q0.vok.1 b k)
 have fpR:∀ b∈fp,¬S.R b:=fun b hb=>(hfp b hb).elim (fun k=>noR b (hwr b k).1) fun k r=>k.1 (q0.vok.1 b r)
 let V':Addr→Prop:=fun b=>V b∨b=C∨b=D∨b∈wr
 have new:∀ b,V' b→V b∨(s.heap.get? b=none∧∃ o,h2.get? b=some o):=fun b k=>k.imp id fun k=>by
  rcases k with rfl | rfl | k
  ·obtain ⟨o,_,_,e,_⟩:=hns;exact ⟨Cn,o,e⟩
  ·obtain ⟨_,e⟩:=Dx;exact ⟨Dn,_,e⟩
  obtain ⟨o,e⟩:=(hwr b k).2;exact ⟨(hwr b k).1,o,k1 b o e⟩
 have qo:View S V' env h2 ρ σ₁:=q0.wide g02 (fun _u k=>.inl k) new
 have f':Fn (compEnvC scope (closOf env.cells scope.names []) C env) (relab nm scope.names):=⟨by simp [compEnvC,relabel,hkind],relab_is f scope,f.glob,f.blt⟩
 generalize hce:compEnvC scope (closOf env.cells scope.names []) C env=ce at f'
 have ceL:ce.locals=C:=by rw [← hce];rfl
 have ceC:ce.cells=closOf env.cells scope.names []:=by rw [← hce];rfl
 have cm:∀ y c,ce.cells.lookup y=some c→env.cells.lookup y=some c:=fun y c e=>closOf_mem _ _ [] (fun _u hp=>nomatch hp) _ (mem_of_lookup (ceC▸e))
 have cOld:∀ y c,env.cells.lookup y=some c→c<D:=fun y c e=>let ⟨v,o,e',_⟩:=q0.cl y c e;old c o e'
 have qc:View S V' ce h2 ρc σ₁:=by
  refine ⟨qo.base,qo.vok,⟨_,ceL▸hns,fun p hp=>?_⟩,fun y c e=>?_,ceC▸closOf_apart _ q0.apart _ [] hnd (fun _u hp=>nomatch hp) (fun _u hp=>nomatch hp) List.Pairwise.nil,⟨.inr (.inl ceL),by rw [ceL];exact noR C Cn⟩,fun y c e=>⟨.inl (q0.ownC y c (cm y c e)).1,(q0.ownC y c (cm y c e)).2.1,by rw [ceL];exact noC c (cOld y c (cm y c e))⟩,qo.wd⟩
  ·obtain ⟨hp1,hp2,hp3,hp4,hp5⟩:=hρ p hp
   obtain ⟨m,_,hv⟩:=qo.fr
   obtain ⟨u,ru,k⟩:=hv p hp1
   have hk:env.kindOf p.1=some .cell:=(f.at _).trans hp3
   rcases k with ⟨k1,_⟩ | ⟨_,c,k2,k3⟩
   ·rw [hk] at k1;cases k1
   exact ⟨u,ru,.inr ⟨(f'.at _).trans (relab_free hp3 hp2),c,ceC▸closOf_free _ k2 _ _ (mem_of_lookup hp2),k3⟩⟩
  exact qo.cl y c (cm y c e)
 have hlx:ce.kindOf x=some .local:=(f'.at x).trans (relab_local hx)
 have hly:ce.kindOf y=some .local:=(f'.at y).trans (relab_local hy)
 have stp:∀ {i:Nat} {ha hb:Heap},St i ha→Grow (fun a=>S.R a∨a=C∨a=D) ha hb→St i hb:=fun {i ha hb} st g=>W.frame _ _ _ st fun b hb' o e=>g b o e fun k=>by
  rcases k with k | k | k
  exact fpR b hb' k;exact noC b (fpLt b hb') k;exact noD b (fpLt b hb') k
 have X':∀ b,(S.R b∨b=C∨b=D∨b∈wr)→V' b:=fun b k=>k.elim (fun k=>.inl (q0.vok.1 b k)) .inr
 have loop:∀ s₃:Shared,s₃ = { s with heap:=h2,toks:=tk1+([]:List (Str × Value)).length } →
   codeAny (model S.prog S.w) A (.compLoop (.ListComp (.Name y yp) [⟨.Name x px,iter,[],0⟩,⟨.Name y py,iter2,[],0⟩] scope pos) 0 (.ref I) (.ref D) ce) (RR (.ref D) C) s₃:=by
  rintro s₃ rfl
  refine codeAny_two (hs:=hfs _) (CmpO S n (relab nm scope.names) x iter2 ρc items ys σ₂ V' ce (fun b=>S.R b∨b=C∨b=D∨b∈wr) D St h2 s) ?_ (items.length+1)
   (.mk 0 σ₁ [] ys #[] h2 _ rfl qc (stp (W.frame _ _ _ hst fun b hb o e=>k1 b o e) (Grow.refl _ _)) Dx .nil ct rfl (Grow.refl _ _) (Nat.zero_le _) rfl pz)
  rintro k s' ⟨i,σi,yi,yr,arr,hh,tk,rfl,qi,hsti,hDi,hri,hcti,hys,gi,hle,rfl,pi⟩
  by_cases hlt:i<items.length
  ·refine wpAny_pos pi (W.item i _ _ _ hlt hsti fun u h₁ tk₁ hPu hst₁ hk₁ p₁=>?_)
   have p₁:0<tk₁:=p₁
   obtain ⟨d,hd,rd⟩:=hP i u hPu
   have hdrop:=drop_step hlt hd
   rw [hdrop] at hcti
   have gw:Grow (fun a=>a∈wr) hh h₁:=fun b ob e hn=>hk₁ b ob hn e
   have wrR:∀ b,b∈wr→¬S.R b:=fun b hb=>noR b (hwr b hb).1
   have q₁:View S V' ce h₁ ρc σi:=qi.grow gw (hwx _ _ hst₁) (fun _u k=>.inr (.inr (.inr k))) (fun k=>by have:=wrLt _ k;rw [ceL] at this;exact noC C this rfl)
    (fun y c e k=>by obtain ⟨v,o,e',_⟩:=q0.cl y c (cm y c e);rw [(hwr c k).1] at e';cases e') (S.grow qi.wd gw (fun _u k=>.inr (.inr (.inr k))) wrR)
   have g₁:Grow (fun b=>S.R b∨b=C∨b=D∨b∈wr) h2 h₁:=gi.trans (gw.mono fun _u k=>.inr (.inr (.inr k)))
   have r₁:RdAll V' h₁ arr.toList yi:=hri.grow gw fun _u k=>.inr (.inr (.inr k))
   have D₁:h₁.PlainList D arr:=by obtain ⟨m,e⟩:=hDi;exact ⟨m,hk₁ D _ (fun k=>noD D (wrLt _ k) rfl) e⟩
   have rd₁:VR V' h₁ u (.d d):=((rd.to fun b k=>(new b k).imp id fun k=>k.1).grow g02 (fun _u k=>k.elim)).grow g₁ X'
   refine wpAny_assign_Name (wpAny_pos p₁ (bind_local f' hlx (ρ₁:=(x,.d d)::ρc) (fun p hp=>?_) q₁ rd₁ fun h₂ tk₂ gl q₂ p₂=>?_))
   ·rcases List.mem_cons.mp hp with rfl | hp
    exact .inl rfl;exact .inr ⟨hp,(hρ p hp).2.2.2.1⟩
   rw [ceL] at gl
   have lV:∀ b,b=C→V' b:=fun b e=>.inr (.inl e)
   have g₂:Grow (fun b=>S.R b∨b=C∨b=D∨b∈wr) h2 h₂:=g₁.trans (gl.mono fun _u k=>.inr (.inl k))
   have r₂:RdAll V' h₂ arr.toList yi:=r₁.grow gl lV
   have D₂:h₂.PlainList D arr:=by obtain ⟨m,e⟩:=D₁;exact ⟨m,gl D _ e nDC⟩
   have st₂:St (i+1) h₂:=stp hst₁ (gl.mono fun _u k=>.inr (.inl k))
   have keepD:∀ {ha hb:Heap} {ar:Array Value},ha.PlainList D ar→Grow S.R ha hb→hb.PlainList D ar:=fun {ha hb ar} p g=>by obtain ⟨m,e⟩:=p;exact ⟨m,g D _ e (noR D Dn)⟩
   refine CT2.elim hcti fun yl yr' σa he hrest hyr=>?_
   refine wpAny_pos p₂ ((he ce f').run V' A _ _ _ (rm.at p₂) q₂ fun v₃ h₃ tk₃ g₃ q₃ r₃ p₃=>?_)
   have D₃:h₃.PlainList D arr:=keepD D₂ g₃
   have st₃:St (i+1) h₃:=stp st₂ (g₃.mono fun _u k=>.inl k)
   have ra₃:RdAll V' h₃ arr.toList yi:=r₂.grow g₃ (fun b k=>.inl (q0.vok.1 b k))
   have gg₃:Grow (fun b=>S.R b∨b=C∨b=D∨b∈wr) h2 h₃:=g₂.trans (g₃.mono fun _u k=>.inl k)
   refine wpAny_pos p₃ (iter_list V' A _ v₃ _ _ rm.h q₃.vok r₃ fun I' fp' wr' P' St' h₄ tk₄ g₄ W' hst' hwr' hwx' hfp' hP' p₄=>?_)
   have p₄:0<tk₄:=p₄
   dsimp only at g₄ hwr' hfp' hP'
   let V2:Addr→Prop:=fun b=>V' b∨b∈wr'
   have new':∀ b,V2 b→V' b∨(h₃.get? b=none∧∃ o,h₄.get? b=some o):=fun b k=>k.imp id fun k=>hwr' b k
   have q₄:View S V2 ce h₄ ((x,.d d)::ρc) σa:=q₃.wide g₄ (fun _u k=>.inl k) new'
   have VC:V' C:=.inr (.inl rfl)
   have VD:V' D:=.inr (.inr (.inl rfl))
   have noW:∀ b,V' b→b∉wr':=fun b k k'=>by obtain ⟨o,e⟩:=(q₃.vok.2 b k).2;rw [(hwr' b k').1] at e;cases e
   have fp'Off:∀ b∈fp',¬(S.R b∨b=C∨b=D):=fun b hb k=>by
    have hV:V' b:=by
     rcases k with k | k | k
     exact .inl (q0.vok.1 b k);exact k▸VC;exact k▸VD
    rcases hfp' b hb with k' | ⟨k',_⟩
    exact noW b hV k';exact k' hV
   have fpW:∀ b∈fp,b∉wr':=fun b hb k'=>by
    have n₃:=(hwr' b k').1
    rcases hfp b hb with k | ⟨k,o,e⟩
    ·obtain ⟨o,e⟩:=hwx _ _ st₃ b k;rw [n₃] at e;cases e
    have e2:h₃.get? b=some o:=gg₃ b o (g02 b o e fun k=>k) fun q=>by
     rcases q with q | q | q | q
     exact noR b (by cases e':s.heap.get? b with | none=>rfl | some _=>exact absurd (q0.vok.1 b q) k) q;exact noC b (old b o e) q;exact noD b (old b o e) q
     rw [(hwr b q).1] at e;cases e
    rw [n₃] at e2;cases e2
   have stp':∀ {j:Nat} {ha hb:Heap},St' j ha→Grow (fun a=>S.R a∨a=C∨a=D) ha hb→St' j hb:=fun {j ha hb} st g=>W'.frame _ _ _ st fun b hb' o e=>g b o e (fp'Off b hb')
   have stO:∀ {ha hb:Heap},St (i+1) ha→Grow (fun b=>(S.R b∨b=C∨b=D)∨b∈wr') ha hb→St (i+1) hb:=fun {ha hb} st g=>W.frame _ _ _ st fun b hb' o e=>g b o e fun k=>by
    rcases k with (k | k | k) | k
    exact fpR b hb' k;exact noC b (fpLt b hb') k;exact noD b (fpLt b hb') k;exact fpW b hb' k
   have zl:=two_len hys hyr hz'
   have loop2:∀ s₅:Shared,s₅ = { s with heap:=h₄,toks:=tk₄ }→∀ (R':Result→Shared→Prop),
     (∀ (arr':Array Value) hh tk,0<tk→View S V' ce hh ((x,.d d)::ρc) σa→hh.PlainList D arr'→RdAll V' hh arr'.toList (yi++yl)→Grow (fun b=>(S.R b∨b=C∨b=D)∨b∈wr') h₄ hh→R' (.ok .next) { s with heap:=hh,toks:=tk }) →
     codeAny (model S.prog S.w) A (.compLoop (.ListComp (.Name y yp) [⟨.Name x px,iter,[],0⟩,⟨.Name y py,iter2,[],0⟩] scope pos) 1 (.ref I') (.ref D) ce) R' s₅:=by
    rintro s₅ rfl R' hR'
    refine codeAny_inner (CmpN S ((x,.d d)::ρc) σa yi yl V2 ce (fun b=>(S.R b∨b=C∨b=D)∨b∈wr') D St' h₄ s) ?_ (yl.length+1)
     (.mk 0 arr h₄ _ rfl q₄ hst' (D₃.at fun o e=>g₄ _ _ e fun k=>k) (by rw [List.take_zero,List.append_nil];exact (ra₃.to fun b k=>(new' b k).imp id fun k=>k.1).grow g₄ (fun _u k=>k.elim)) (Grow.refl _ _) (Nat.zero_le _) rfl p₄)
    rintro k s' ⟨j,arr',hh,tk,rfl,qj,hstj,hDj,hrj,gj,hjle,rfl,pj⟩
    by_cases hjlt:j<yl.length
    ·refine wpAny_pos pj (W'.item j _ _ _ hjlt hstj fun u h₅ tk₅ hPu hst₅ hk₅ p₅=>?_)
     have p₅:0<tk₅:=p₅
     obtain ⟨d',hd',rd'⟩:=hP' j u hPu
     have gw:Grow (fun a=>a∈wr') hh h₅:=fun b ob e hn=>hk₅ b ob hn e
     have wV:∀ b,b∈wr'→V2 b:=fun b k=>.inr k
     have q₅:View S V2 ce h₅ ((x,.d d)::ρc) σa:=qj.grow gw (hwx' _ _ hst₅) wV (fun k=>noW _ (ceL▸VC) k) (fun z c e k=>noW c (.inl (q0.ownC z c (cm z c e)).1) k)
      (S.grow qj.wd gw wV fun b k q=>noW b (.inl (q0.vok.1 b q)) k)
     have g₄₅:Grow (fun b=>(S.R b∨b=C∨b=D)∨b∈wr') h₄ h₅:=gj.trans (gw.mono fun _u k=>.inr k)
     have cdV:∀ b,((S.R b∨b=C∨b=D)∨b∈wr')→V2 b:=fun b k=>k.elim (fun k=>k.elim (fun k=>.inl (.inl (q0.vok.1 b k))) fun k=>k.elim (fun e=>.inl (e▸VC)) fun e=>.inl (e▸VD)) .inr
     have rd₅:VR V2 h₅ u (.d d'):=((Rd.to (fun b k=>(new' b k).imp id fun k=>k.1) rd').grow g₄ (fun _u k=>k.elim)).grow g₄₅ cdV
     refine wpAny_assign_Name (wpAny_pos p₅ (bind_local f' hly (ρ₁:=(y,.d d')::(x,.d d)::ρc) (fun p hp=>?_) q₅ rd₅ fun h₆ tk₆ gl q₆ p₆=>?_))
     ·rcases List.mem_cons.mp hp with rfl | hp
      exact .inl rfl
      refine .inr ⟨hp,?_⟩
      rcases List.mem_cons.mp hp with rfl | hp
      exact hxy;exact (hρ p hp).2.2.2.2
     rw [ceL] at gl
     have lV:∀ b,b=C→V2 b:=fun b e=>.inl (e▸VC)
     refine wpAny_pos p₆ ((ev_name f' (.head _) hdy).run V2 A _ _ _ (rm.at p₆) q₆ fun v₇ h₇ tk₇ g₇ q₇ r₇ p₇=>?_)
     have D₇:h₇.PlainList D arr':=by
      obtain ⟨m,e⟩:=hDj
      exact ⟨m,g₇ D _ (gl D _ (hk₅ D _ (fun k=>noW D VD k) e) nDC) (noR D Dn)⟩
     have hRV:∀ b,S.R b→V2 b:=fun b k=>.inl (.inl (q0.vok.1 b k))
     have r₇':RdAll V2 h₇ arr'.toList (yi++yl.take j):=((hrj.grow gw wV).grow gl lV).grow g₇ hRV
     have hsz:=take_len hrj.size zl
     refine wpAny_list_append_plain D₇ (fun h₈ hD₈ hs₈=>?_) (Nat.le_trans hsz (by decide))
     have g₈:Grow (fun b=>b=D) h₇ h₈:=Grow.same hs₈ rfl
     have dV:∀ b,b=D→V2 b:=fun b e=>.inl (e▸VD)
     have q₈:View S V2 ce h₈ ((x,.d d)::ρc) σa:=(q₇.sub (ρ':=(x,.d d)::ρc) fun p hp=>.tail _ hp).grow g₈ (fun b e=>by rw [e];obtain ⟨_,e⟩:=hD₈;exact ⟨_,e⟩) dV (fun e=>by rw [ceL] at e;exact nCD e) (fun z c e k=>noD c (cOld z c (cm z c e)) k) (S.grow q₇.wd g₈ dV fun b e=>e▸noR D Dn)
     have gl':Grow (fun a=>S.R a∨a=C∨a=D) h₅ h₈:=((gl.mono fun _u k=>.inr (.inl k)).trans (g₇.mono fun _u k=>.inl k)).trans (g₈.mono fun _u k=>.inr (.inr k))
     refine ⟨yl.length+1 - (j+1),turn_less hjlt,.mk (j+1) (arr'.push v₇) h₈ tk₇ rfl q₈ (stp' hst₅ gl') hD₈ ?_ (g₄₅.trans (gl'.mono fun _u k=>.inl k)) hjlt rfl p₇⟩
     rw [Array.toList_push]
     have e:yl.take (j+1)=yl.take j++[d']:=by
      rw [List.take_add_one,hd'];rfl
     rw [e,← List.append_assoc]
     exact (r₇'.append (.cons r₇ .nil)).grow g₈ dV
    have hjn:j=yl.length:=Nat.le_antisymm hjle (Nat.le_of_not_lt hjlt)
    rw [hjn,List.take_length] at hrj
    refine wpAny_pos pj (W'.done _ _ _ (hjn▸hstj) fun h₅ tk₅ hk₅ p₅=>?_)
    have gw:Grow (fun a=>a∈wr') hh h₅:=fun b ob e hn=>hk₅ b ob hn e
    have wV:∀ b,b∈wr'→V2 b:=fun b k=>.inr k
    have q₅:View S V' ce h₅ ((x,.d d)::ρc) σa:=qj.last gw (fun b k=>.inl k) wV (fun b k q=>noW b q k) (fun b k=>.inl (q0.vok.1 b k)) (.inr (.inl ceL)) fun z c e=>.inl (q0.ownC z c (cm z c e)).1
    refine hR' arr' h₅ tk₅ p₅ q₅ (by obtain ⟨m,e⟩:=hDj;exact ⟨m,hk₅ D _ (fun k=>noW D VD k) e⟩) ?_ (gj.trans (gw.mono fun _u k=>.inr k))
    exact (hrj.grow gw wV).to fun b k=>.inl (.inl k)
   refine codeAny_start_inner (loop2 _ rfl _ ?_) (W'.self 0 _ _ _ hst' (loop2 _ rfl _ ?_))
   all_goals
    intro arr' hh tk ph qh hD rh gh
    refine ⟨items.length+1 - (i+1),turn_less hlt,.mk (i+1) σa (yi++yl) yr' arr' hh tk rfl (qh.sub fun p hp=>.tail _ hp) (stO (W.frame _ _ _ st₃ fun b hb o e=>g₄ b o e fun k=>k) gh) hD rh hrest (by rw [hys,hyr,List.append_assoc]) ?_ hlt rfl ph⟩
    refine gg₃.trans (((g₄.none (X:=fun b=>(S.R b∨b=C∨b=D)∨b∈wr')).trans gh).drop fun b k=>k.elim (fun k=>.inl (k.imp id fun k=>k.imp id .inl)) fun k=>.inr (hwr' b k).1)
  have hin:i=items.length:=Nat.le_antisymm hle (Nat.le_of_not_lt hlt)
  rw [hin,List.drop_length] at hcti
  have hst':=hin▸hsti
  have hyy:ys=yi:=by rw [hys,hcti.fin.1,List.append_nil]
  have wdσ:S.Wd V' hh σ₂:=hcti.fin.2▸qi.wd
  refine W.done _ _ _ hst' fun h₁ tk₁ hk₁=>?_
  have gw:Grow (fun a=>a∈wr) hh h₁:=fun b ob e hn=>hk₁ b ob hn e
  have wV:∀ b,b∈wr→V' b:=fun b k=>.inr (.inr (.inr k))
  have qh:View S V' env hh ρ σ₂:=by
   refine qo.grow gi (fun b k=>?_) X' (fun k=>?_) (fun y c e k=>?_) wdσ
   exact (qi.vok.2 b (X' b k)).2
   ·rcases k with k | k | k | k
    exact q0.own.2 k
    ·obtain ⟨m,⟨o,es,ep,e,_⟩,_⟩:=q0.fr;exact noC _ (old _ o e) k
    ·obtain ⟨m,⟨o,es,ep,e,_⟩,_⟩:=q0.fr;exact noD _ (old _ o e) k
    obtain ⟨m,⟨o,es,ep,e,_⟩,_⟩:=q0.fr;rw [(hwr _ k).1] at e;cases e
   rcases k with k | k | k | k
   exact (q0.ownC y c e).2.1 k;exact noC c (cOld y c e) k;exact noD c (cOld y c e) k
   obtain ⟨v,o,e',_⟩:=q0.cl y c e;rw [(hwr c k).1] at e';cases e'
  have gAll:Grow S.R s.heap h₁:=by
   have g3:Grow (fun b=>S.R b∨b=C∨b=D∨b∈wr) s.heap h₁:=(g02.none.trans gi).trans (gw.mono fun _u k=>.inr (.inr (.inr k)))
   refine g3.drop fun b k=>?_
   rcases k with k | k | k | k
   exact .inl k;exact .inr (k▸Cn);exact .inr (k▸Dn);exact .inr (hwr b k).1
  have sub:∀ b,(V b∨b=C∨b=D)→V' b:=fun b k=>k.imp id fun k=>k.imp id .inl
  obtain ⟨mC,hnC,_⟩:=qi.fr
  rw [ceL] at hnC
  obtain ⟨m,e⟩:=hDi
  refine h D C arr h₁ tk₁ mC Dn Cn nDC gAll (qh.last gw sub wV (fun b k q=>q.elim (noV b (hwr b k).1) fun e=>e.elim (noC b (wrLt b k)) (noD b (wrLt b k))) (fun b k=>.inl (q0.vok.1 b k)) (.inl q0.own.1) fun y c e=>.inl (q0.ownC y c e).1) ⟨m,hk₁ D _ (fun k=>noD D (wrLt _ k) rfl) e⟩ (hyy▸(hri.grow gw wV).to fun b k=>.inl (sub b k)) (ns_grow hnC gw fun k=>noC C (wrLt _ k) rfl)
 subst hce
 exact codeAny_compStart_list (loop _ rfl) (W.self 0 _ _ _ (W.frame _ _ _ hst fun b _u o e=>k1 b o e) (loop _ rfl))
section rules
variable {n:Nat} {env:Env} {ρ ρc:List (Str × AV)} {σ σ₁ σ₂:Sto} {nm:List (Str × NameKind)}
theorem evn_comp2 {x y:Str} {px py yp pos:Pos} {iter iter2:Expr} {scope:Scope} {a:AV} {items ys:List PyData} (f:Fn env nm) (cf:CF env nm scope x ρ ρc) (h1:Ev S n env ρ σ (eval iter env) a σ₁) (hi:IterOf S a items)
  (hy:scope.names.lookup y=some .local) (hxy:x≠y) (hρ:∀ p∈ρc,p.1≠y) (ct:CT2 S n (relab nm scope.names) x iter2 ρc items σ₁ ys σ₂) (hz:items.length≤1000000) (hz':ys.length≤100000) (hdy:(y == ("__debug__" : Str))=false:=by decide) (hfs:∀ env x,foldedSetIterable iter2 env x=pure x:=by intro _ _;rfl) (hs:∀ x,foldedSetIterable iter env x=pure x:=by intro _;rfl) :
  EvN S n env ρ σ (eval (.ListComp (.Name y yp) [⟨.Name x px,iter,[],0⟩,⟨.Name y py,iter2,[],0⟩] scope pos) env) ys σ₂:=by
 intro V A s Q E rm q h
 rw [eval_ListComp]
 refine wpAny_comprehension_free (use:=none) rfl hs (closureFor_is cf.free) cf.kind (fun y hy hl=>lookup_nodup cf.nd (hl▸hy)) (wpAny_pos rm.pos (h1.run V A s _ E rm q fun v h' tk g q1 r p1=>?_))
 refine comp2_block (RR:=fun acc C=>compPost (model S.prog S.w) A E none Q acc C) f cf.free cf.nd cf.cell cf.kind cf.own hy hxy hdy (fun p hp=>⟨(cf.sub p hp).1,(cf.sub p hp).2.1,(cf.sub p hp).2.2.1,(cf.sub p hp).2.2.2,hρ p hp⟩) hi ct hz hz' hfs (rm.at p1) q1 r ?_
 intro D C its h2 tk2 m hD hC hDC g2 q2 hl ra hn
 refine ⟨m,hn,fun h3 hs3=>?_⟩
 have gone:∀ b,h'.get? b=none→s.heap.get? b=none:=fun b hb=>by
  cases e:s.heap.get? b with
  | none=>rfl
  | some o=>
   by_cases k:S.R b
   ·obtain ⟨o',e'⟩:=S.ex q1.wd _ k;rw [hb] at e';cases e'
   have:=g _ o e k;rw [hb] at this;cases this
 have g3:Grow (fun b=>b=C) h2 h3:=Grow.same hs3 rfl
 have nC:¬V C:=q1.lost hC
 refine h D its h3 tk2 (gone _ hD) ((g.trans g2).trans_fresh g3 (fun b e=>e▸gone _ hC)) (q2.last (V:=fun b=>V b∨b=D) g3 (fun b k=>k.imp id .inr) (fun b e=>.inr (.inl e)) (fun b e k=>?_) (fun b k=>.inl (q.vok.1 b k)) (.inl q.own.1) fun y c e=>.inl (q.ownC y c e).1) (hl.at fun o e=>g3 _ _ e hDC) ((ra.grow g3 fun b e=>.inr (.inl e)).to fun b k=>.inl (k.imp id .inr))
 subst e
 exact k.elim nC fun e=>hDC e.symm
end rules
end
section
variable {S:Sys}
noncomputable def SetsN (env:Env) (t:Value→Sem Unit) (x:Str):Prop:=∀ {M:Model} {A:Around} {Q:Unit→Shared→Prop} {E:Value→Shared→Prop} {s:Shared} {v:Value},wpAny M A (storeName env x v) Q E s→wpAny M A (t v) Q E s
inductive SetAll (env:Env):List (Value→Sem Unit)→List Str→Prop
 | nil:SetAll env [] []
 | cons {t ts x xs}:SetsN env t x→SetAll env ts xs→SetAll env (t::ts) (x::xs)
noncomputable def UpdA (xs:List Str) (as:List AV) (ρ ρ₁:List (Str × AV)):Prop:=∀ p∈ρ₁,(∃ i:Nat,xs[i]?=some p.1∧as[i]?=some p.2)∨(p∈ρ∧p.1∉xs)
section rules
variable {n:Nat} {env:Env} {ρ ρ₁ ρ₂ ρc:List (Str × AV)} {σ σ₁ σ₂ σ₃:Sto} {nm:List (Str × NameKind)} {o:Out Sto}
theorem bind_all (f:Fn env nm) {Q:Unit→Shared→Prop} {E:Value→Shared→Prop} {A:Around} {V:Addr→Prop}:∀ {ts:List (Value→Sem Unit)} {xs:List Str},SetAll env ts xs→∀ {vs:List Value} {as:List AV} {ρ ρ₁:List (Str × AV)} {s:Shared},xs.Nodup→(∀ x∈xs,Binds env x) →
  VRs V s.heap vs as→xs.length=as.length→UpdA xs as ρ ρ₁→View S V env s.heap ρ σ→(∀ h' tk,Grow (Own env) s.heap h'→View S V env h' ρ₁ σ→Q () { s with heap:=h',toks:=tk })→wpAny (model S.prog S.w) A (assignInOrder ts vs) Q E s:=by
 intro ts xs hs
 induction hs with
 | nil=>
  intro vs as ρ ρ₁ s _ _ r hl hu q h
  cases as with
  | cons=>simp at hl
  | nil=>
   cases r
   refine wpAny_pure (h s.heap s.toks (Grow.refl _ _) (q.sub fun p hp=>?_))
   rcases hu p hp with ⟨i,e,_⟩ | k
   ·simp at e
   exact k.1
 | @cons t ts x xs ht hts ih=>
  intro vs as ρ ρ₁ s hn hb r hl hu q h
  cases r with
  | nil=>simp at hl
  | @cons v vs a as r1 r2=>
  rw [List.nodup_cons] at hn
  show wpAny _ _ (do holding vs (t v);assignInOrder ts vs) Q E s
  refine wpAny_bind (wpAny_holding (ht (bind_step f (hb x (.head _)) (up_upd (x:=x) (a:=a) (ρ:=ρ)) q r1 fun h' tk g q1=>?_)))
  have oV:∀ b,Own env b→V b:=fun b k=>(q.ownLt k).1
  refine ih hn.2 (fun y hy=>hb y (.tail _ hy)) (r2.grow g oV) (by simpa using hl) (fun p hp=>?_) q1 fun h'' tk' g' q2=>h h'' tk' (g.trans g') q2
  rcases hu p hp with ⟨i,e1,e2⟩ | ⟨k1,k2⟩
  ·cases i with
   | zero=>
    simp at e1 e2
    refine .inr ⟨?_,by rw [← e1];exact hn.1⟩
    have:p=(x,a):=by rw [e1,e2]
    rw [this];exact .head _
   | succ i=>exact .inl ⟨i,by simpa using e1,by simpa using e2⟩
  rw [List.mem_cons,not_or] at k2
  exact .inr ⟨.tail _ (List.mem_filter.mpr ⟨k1,by simpa using k2.1⟩),k2.2⟩
theorem SetAll.binds:∀ (xs:List Str),SetAll env (xs.map fun x=>bindName env x) xs
 | []=>.nil
 | x::xs=>.cons (fun h=>wpAny_bindName h) (SetAll.binds xs)
inductive NamesAre:List Expr→List Str→Prop
 | nil:NamesAre [] []
 | cons {x p es xs}:NamesAre es xs→NamesAre (.Name x p::es) (x::xs)
theorem NamesAre.sets {es:List Expr} {xs:List Str} (h:NamesAre es xs):SetAll env ((assignEach es env).map (·.2)) xs∧(assignEach es env).length=xs.length∧(assignEach es env).findIdx? (·.1)=none:=by
 induction h with
 | nil=>exact ⟨.nil,rfl,rfl⟩
 | @cons x p es xs _ ih=>
  have e:assignEach (.Name x p::es) env=(false,assign (.Name x p) env)::assignEach es env:=rfl
  rw [e]
  refine ⟨.cons (fun h=>wpAny_assign_Name h) ih.1,by rw [List.length_cons,List.length_cons,ih.2.1],?_⟩
  rw [List.findIdx?_cons,ih.2.2];rfl
noncomputable def envN (nm:List (Str × NameKind)):Env:={ (default:Env) with scope:={ (default:Scope) with kind:=.function,names:=nm } }
theorem sw_eq (f:Fn env nm) (ts:List Expr) (v:Expr):swappedStores ts v env=swappedStores ts v (envN nm):=by
 have e1:env.blockKind=(envN nm).blockKind:=by unfold Env.blockKind;rw [f.kind];rfl
 have e2:env.kindOf=(envN nm).kindOf:=funext fun x=>f.at x
 unfold swappedStores
 rw [e1,e2]
theorem rev_ix {n i:Nat} (h:i<n):n - 1 - (n - 1 - i)=i:=Nat.sub_sub_self (Nat.le_sub_one_of_lt h)
theorem rev_lt {n i:Nat} (h:i<n):n - 1 - i<n:=Nat.lt_of_le_of_lt (Nat.sub_le _ _) (Nat.sub_one_lt_of_lt h)
theorem ex_unpack {elts:List Expr} {xs:List Str} {k:Nat} {tpos pos:Pos} {value:Expr} {ds:List PyData} (f:Fn env nm) (hx:NamesAre elts xs) (hn:xs.Nodup) (hb:∀ x∈xs,Binds env x) (h1:Ev S n env ρ σ (eval value env) (.d (.tuple ds)) σ₁) (hl:xs.length=ds.length)
  (hw:swappedStores [.Tuple elts k tpos] value (envN nm)=pure none∨swappedStores [.Tuple elts k tpos] value (envN nm)=pure (some xs)) (hu:UpdA xs (ds.map AV.d) ρ ρ₁) (hs:swapsWithSole [.Tuple elts k tpos] value pos.line env=pure false:=by rfl) :
  Ex S n env ρ σ (exec (.Assign [.Tuple elts k tpos] value pos) env) (.next ρ₁ σ₁):=by
 constructor;intro V A s Q E rm q h
 obtain ⟨s1,s2,s3⟩:=hx.sets (env:=env)
 rcases hw with hw | hw
 ·refine Assign_Tuple (h1.run V A s _ E rm q fun v h' tk g q1 r=>?_) hs ((sw_eq f _ _).trans hw)
  obtain ⟨a,its,rfl,na,ht,ra⟩:=Rd.isTuple r
  refine assign_Tuple_tuple rm.h ht (by rw [s2,hl,ra.size]) s3 fun h2 hx2=>?_
  have g2:Grow (fun _u=>False) h' h2:=.of fun b o e=>hx2 b o (Nat.ne_of_lt (Heap.lt_size e)) e
  refine bind_all (V:=V) f s1 hn hb (VRs.of (ra.grow g2 fun _u k=>k.elim)) (by rw [List.length_map];exact hl) hu (q1.more g2) fun h3 tk3 g3 q3=>?_
  exact h _ h3 tk3 (((g.trans g2.none).own (env:=env)).trans (g3.mono fun _u k=>.inr k)) ⟨rfl,q3⟩
 refine Assign_Tuple_swapped (h1.run V A s _ E rm q fun v h' tk g q1 r=>?_) hs ((sw_eq f _ _).trans hw)
 obtain ⟨a,its,rfl,na,ht,ra⟩:=Rd.isTuple r
 have e:xs.length=its.size:=by rw [hl,ra.size]
 rw [e]
 refine unpackItems_tuple rm.h ht fun h2 hx2=>?_
 have g2:Grow (fun _u=>False) h' h2:=.of fun b o e=>hx2 b o (Nat.ne_of_lt (Heap.lt_size e)) e
 have rr:=(ra.grow g2 fun _u k=>k.elim).reverse
 refine bind_all (ρ₁:=ρ₁) (V:=V) f (SetAll.binds xs.reverse) ((List.reverse_perm xs).nodup_iff.mpr hn) (fun x hx=>hb x (List.mem_reverse.mp hx)) (VRs.of rr) (by simp [hl]) (fun p hp=>?_) (q1.more g2) fun h3 tk3 g3 q3=>?_
 ·rcases hu p hp with ⟨i,e1,e2⟩ | ⟨k1,k2⟩
  ·have hi:i<xs.length:=(List.getElem?_eq_some_iff.mp e1).1
   refine .inl ⟨xs.length - 1 - i,?_,?_⟩
   ·rw [List.getElem?_reverse (rev_lt hi),rev_ix hi];exact e1
   rw [List.map_reverse,List.getElem?_reverse (by rw [List.length_map,← hl];exact rev_lt hi),List.length_map,← hl,rev_ix hi];exact e2
  exact .inr ⟨k1,fun k=>k2 (List.mem_reverse.mp k)⟩
 exact h _ h3 tk3 (((g.trans g2.none).own (env:=env)).trans (g3.mono fun _u k=>.inr k)) ⟨rfl,q3⟩
inductive WTurns (S:Sys) (n:Nat) (env:Env) (test:Expr) (body:List Stmt):Nat→List (Str × AV)→Sto→Out Sto→Prop
 | stop {ρ σ σ' k}:Tr S n env ρ σ (isTrue test env (eval test env)) false σ'→WTurns S n env test body k ρ σ (.next ρ σ')
 | turn {ρ ρ₁ σ σ₁ σ₂ o k}:Tr S n env ρ σ (isTrue test env (eval test env)) true σ₁→Ex S n env ρ σ₁ (execs body env) (.next ρ₁ σ₂)→WTurns S n env test body k ρ₁ σ₂ o→WTurns S n env test body (k+1) ρ σ o
theorem WTurns.elim {test:Expr} {body:List Stmt} {k:Nat} {P:Prop} (h:WTurns S n env test body k ρ σ o)
  (h1:∀ σ',Tr S n env ρ σ (isTrue test env (eval test env)) false σ'→o=.next ρ σ'→P)
  (h2:∀ k' ρ₁ σ₁ σ₂,Tr S n env ρ σ (isTrue test env (eval test env)) true σ₁→Ex S n env ρ σ₁ (execs body env) (.next ρ₁ σ₂)→WTurns S n env test body k' ρ₁ σ₂ o→k=k'+1→P):P:=by
 cases h with
 | stop a=>exact h1 _ a rfl
 | turn a b c=>exact h2 _ _ _ _ a b c rfl
inductive WhI (S:Sys) (n:Nat) (env:Env) (test:Expr) (body:List Stmt) (o:Out Sto) (V:Addr→Prop) (s:Shared) (k:Nat) (s':Shared):Prop
 | mk (ρ:List (Str × AV)) (σ:Sto) (h:Heap) (tk:Nat) (es:s' = { s with heap:=h,toks:=tk }) (q:View S V env h ρ σ) (ht:WTurns S n env test body k ρ σ o) (g:Grow (fun b=>S.R b∨Own env b) s.heap h) (p:0<tk):WhI S n env test body o V s k s'
theorem ex_while {test:Expr} {body:List Stmt} {pos:Pos} {k:Nat} (ht:WTurns S n env test body k ρ σ o):Ex S n env ρ σ (exec (.While test body [] pos) env) o:=by
 constructor;intro V A s Q E rm q h
 refine wpAny_While (codeAny_whileLoop (WhI S n env test body o V s) ?_ k (.mk ρ σ s.heap s.toks rfl q ht (Grow.refl _ _) rm.pos))
 rintro k s' ⟨ρi,σi,hh,tk,rfl,qi,hti,gi,pi⟩
 refine WTurns.elim hti (fun σ' h1 ho=>?_) (fun k' ρ₁ σ₁ σ₂ h1 h2 h3 ek=>?_)
 ·refine h1.run V A _ _ _ (rm.at pi) qi fun b h' tk' g q1 e=>?_
  have e:b=false:=e
  rw [e]
  refine wpAny_execs_nil (h _ h' tk' (gi.trans g.own) ?_)
  rw [ho];exact ⟨rfl,q1⟩
 refine wpAny_pos pi (h1.run V A _ _ _ (rm.at pi) qi fun b h' tk' g q1 e p1=>?_)
 have e:b=true:=e
 rw [e]
 refine wpAny_pos p1 (h2.run V A _ _ _ (rm.at p1) q1 fun fl h'' tk'' g' r' p2=>?_)
 have q2:=r'.2
 rw [r'.1]
 exact ⟨k',ek▸Nat.lt_succ_self _,.mk _ _ h'' tk'' rfl q2 h3 ((gi.trans g.own).trans g') p2⟩
end rules
end
section
variable {S:Sys}
@[reducible] noncomputable def mk (i:Int):PyData:=.dict [(.int i,.none)]
section rules
variable {n:Nat} {env:Env} {ρ ρ₁ ρ₂ ρc:List (Str × AV)} {σ σ₁ σ₂ σ₃:Sto} {nm:List (Str × NameKind)}
theorem ev_fgt {t:Sem Value} {d:PyData} (h1:Ev S n env ρ σ t (.d d) σ₁):Ev S n env ρ σ t (.d (fgt d)) σ₁:=.mk fun V A s Q E rm q h=>
 h1.run V A s Q E rm q fun v h' tk g q1 r=>h v h' tk g q1 (Rd.fgt r)
theorem ev_unmk {t:Sem Value} {i:Int} (h1:Ev S n env ρ σ t (.d (mk i)) σ₁):Ev S n env ρ σ t (.d (.int i)) σ₁:=by
 have:=ev_fgt h1
 exact this
theorem ev_mint {i:Int} {k:Nat} {pos:Pos}:Ev S n env ρ σ (eval (.Constant (.int i) k pos) env) (.d (mk i)) σ:=.mk fun V A s Q E rm q h=>
 wpAny_Constant_int (h _ s.heap _ (Grow.refl _ _) q (.mark i (Nat.pos_iff_ne_zero.mp rm.pos)))
theorem Op.int2m {f:Value→Value→Sem Value} {a b c:Int}
  (h:∀ (A:Around) (s:Shared) (t u:Tok) (Q:Value→Shared→Prop) (E:Value→Shared→Prop),Rm A 0→s.heap.NoLimit→Q (.int c s.toks) { s with toks:=s.toks+1 }→wpAny (model S.prog S.w) A (f (.int a t) (.int b u)) Q E s) :
  Op S [.d (.int a),.d (.int b)] (op2 f) fun V h v=>VR V h v (.d (mk c)):=by
 intro V A s vs Q E rm bs vk r k
 obtain ⟨v,u,rfl,r1,r2⟩:=r.two
 obtain ⟨t1,rfl⟩:=Rd.ofInt r1
 obtain ⟨t2,rfl⟩:=Rd.ofInt r2
 exact h _ _ _ _ _ _ rm.toRm (S.lim.keeps bs) (k _ s.heap _ (Grow.refl _ _) (.mark c (Nat.pos_iff_ne_zero.mp rm.pos)))
theorem bin_subm {a b:Int}:Bin S .Sub (.d (.int a)) (.d (.int b)) (.d (mk (a - b))):=.int2m fun A s t u Q E rm hl h=>PyProof.Rows.sub_int h
theorem bin_mulm {a b:Int} (hm:IntMulOk a b):Bin S .Mult (.d (.int a)) (.d (.int b)) (.d (mk (a*b))):=.int2m fun A s t u Q E rm hl h=>PySem.P.mul_int h hm
theorem blt_absm {i:Int}:Blt S "abs" [.d (mk i)] (.d (mk (if i<0 then -i else i))):=by
 intro V A s vs Q E rm bs vk r h
 obtain ⟨v,rfl,r1⟩:=r.one
 obtain ⟨t,ht,rfl⟩:=Rd.ofMark r1
 refine call_function_entry kind_abs plain_abs entry_abs (args_abs _) ?_
 unfold Builtin.«abs»
 refine wpAny_bind (m:=oneArg "abs" _) (wpAny_pure ?_)
 refine wpAny_bind (m:=callSpecial? (.int i t) (Str.ofString "__abs__")) (wpAny_callSpecial?_slot (name:=Str.ofString "__abs__") (typeIs_int s i t) slot_int_abs
  (wpAny_call_entry slot_int_abs (typeIs_int s i t) entry_int_abs ?_ (args_int_abs _)))
 show wpAny _ _ (if i<0 then _ else _) _ _ s
 by_cases hneg:i<0
 ·rw [if_pos hneg]
  refine wpAny_ret_mkInt (wpAny_pure ⟨_,rfl,h _ s.heap _ (Grow.refl _ _) ?_⟩)
  rw [if_pos hneg]
  exact .mark _ (Nat.pos_iff_ne_zero.mp rm.pos)
 rw [if_neg hneg]
 refine wpAny_pure ⟨_,rfl,wpAny_pure ⟨_,rfl,h _ s.heap s.toks (Grow.refl _ _) ?_⟩⟩
 rw [if_neg hneg]
 exact .mark _ ht
theorem ev_neg {i:Int} {k:Nat} {p pos:Pos}:Ev S n env ρ σ (eval (.UnaryOp .USub (.Constant (.int i) k p) pos) env) (.d (.int (-i))) σ:=by
 constructor;intro V A s Q E rm q h
 exact wpAny_UnaryOp (wpAny_Constant_int (PyProof.Rows.neg_int (h _ s.heap _ (Grow.refl _ _) q (.int _ _))))
end rules
end
section
variable {B:Base} {R:Addr→Prop} {lo:∀ a,R a→B.h₁.get? a=none} {K:Frag}
theorem mg_none (hK:K.In B.h₁) {x:Str} (e:nsIn K mainGlobals x=some none):B.mg x=none:=ns_none_of hK B.g e
set_option tactic.hygienic true in
theorem mg_some (hK:K.In B.h₁) {x:Str} {v:Value} (e:nsIn K mainGlobals x=some (some v)):B.mg x=some v:=by
 obtain ⟨o,es,ep,ho,hd,hk,hf⟩:=B.g
 unfold nsIn at e
 split at e
 ·rename_i es' n hl
  have:=hK _ _ hl
  rw [ho] at this
  cases this
  cases hd
  have h2:=hf x
  split at e
  ·rename_i en he
   cases e
   rw [← h2]
   unfold nsFind findBy
   rw [← Array.find?_toList,he]
   rfl
  split at e <;> cases e
 cases e
theorem kvGet_skip {k':PyData} {v':AV} {r:List (PyData × AV)} {k:PyData} (h:PyData.eqv k' k=false):kvGet ((k',v')::r) k=kvGet r k:=by rw [kvGet,h];rfl
theorem kvGet_hit {k':PyData} {v':AV} {r:List (PyData × AV)} {k:PyData} (h:PyData.eqv k' k=true):kvGet ((k',v')::r) k=some v':=by rw [kvGet,h];rfl
theorem kvSet_skip {k':PyData} {v':AV} {r:List (PyData × AV)} {k:PyData} {v:AV} (h:PyData.eqv k' k=false):kvSet ((k',v')::r) k v=(k',v')::kvSet r k v:=by rw [kvSet,h];rfl
theorem kvSet_hit {k':PyData} {v':AV} {r:List (PyData × AV)} {k:PyData} {v:AV} (h:PyData.eqv k' k=true):kvSet ((k',v')::r) k v=(k',v)::r:=by rw [kvSet,h];rfl
section rules
variable {n m:Nat} {env:Env} {ρ ρ₁ ρ₂:List (Str × AV)} {σ σ₁ σ₂ σ₃:Sto} {nm:List (Str × NameKind)}
theorem ev_glob (hK:K.In B.h₁) {x:Str} {pos:Pos} {v:Value} (f:Fn env nm) (hk:nm.lookup x=some .globalImplicit) (e:nsIn K mainGlobals x=some (some v)) (hd:(x == ("__debug__" : Str))=false) :
  Ev (B.sys R lo) n env ρ σ (eval (.Name x pos) env) (.v v) σ:=ev_global f hk (mg_some hK e) hd
theorem ev_blt (hK:K.In B.h₁) {x:Str} {pos:Pos} {v:Value} (f:Fn env nm) (hk:nm.lookup x=some .globalImplicit) (e:nsIn K mainGlobals x=some none) (hv:bootBuiltins x=some v) (hn:x≠"__name__") (hd:(x == ("__debug__" : Str))=false) :
  Ev (B.sys R lo) n env ρ σ (eval (.Name x pos) env) (.v v) σ:=ev_builtin f hk (mg_none hK e) (B.bb _ _ hv hn) hd
theorem ev_globi (hK:K.In B.h₁) {x:Str} {pos:Pos} {i:Int} {t:Tok} (f:Fn env nm) (hk:nm.lookup x=some .globalImplicit) (e:nsIn K mainGlobals x=some (some (.int i t))) (hd:(x == ("__debug__" : Str))=false) :
  Ev (B.sys R lo) n env ρ σ (eval (.Name x pos) env) (.d (.int i)) σ:=.mk fun V A s Q E rm q h=>
 (ev_glob hK f hk e hd).run V A s Q E rm q fun v h' tk g q1 r=>by have r:_=_:=r;subst r;exact h _ h' tk g q1 (Rd.int i t)
end rules
end
section
open PySem SetTable
theorem mod_le (a m:Nat):a % (m+1)≤m:=Nat.le_of_lt_succ (Nat.mod_lt _ (Nat.succ_pos m))
noncomputable def adv (m:Nat) (p:Probe):Probe:=
 if p.more > 0 then { p with j:=p.j+1,more:=p.more - 1 } else
 let (i,perturb):=leap m p.i p.perturb
 { p with j:=i,more:=runEnd m i - i,i,perturb }
@[reducible] noncomputable def rnd (m i pt:Nat):Probe:={ j:=i,more:=runEnd m i - i,i,perturb:=pt,dummy:=none }
noncomputable def pth (m:Nat) (p:Probe):Nat→Probe
 | 0=>p
 | k+1=>adv m (pth m p k)
theorem pth_add (m:Nat) (p:Probe) (a b:Nat):pth m p (a+b)=pth m (pth m p a) b:=by
 induction b with
 | zero=>rfl
 | succ b ih=>show adv m (pth m p (a+b))=_;rw [ih];rfl
@[reducible] noncomputable def beg (m:Nat) (h:Int):Probe:=rnd m (bits h % (m+1)) (bits h)
structure POk (m:Nat) (p:Probe):Prop where
 d:p.dummy=none
 j:p.j+p.more≤m
theorem runEnd_le {m i:Nat} (h:i≤m):i≤runEnd m i∧runEnd m i≤m∧runEnd m i≤i+9:=by
 unfold runEnd;split <;> walk_at "o"
theorem rnd_ok {m i pt:Nat} (h:i≤m):POk m (rnd m i pt):=⟨rfl,by have:=runEnd_le h;show i+(runEnd m i - i)≤m;walk_at "o"⟩
theorem adv_ok {m:Nat} {p:Probe} (h:POk m p):POk m (adv m p):=by
 unfold adv
 split
 exact ⟨h.d,by have:=h.j;show p.j+1+(p.more - 1)≤m;walk_at "o"⟩
 have hi:(leap m p.i p.perturb).1≤m:=by
  show (p.i*5+1+p.perturb / 32) % (m+1)≤m
  exact mod_le _ _
 have:=runEnd_le hi
 exact ⟨h.d,by show (leap m p.i p.perturb).1+(runEnd m (leap m p.i p.perturb).1 - (leap m p.i p.perturb).1)≤m;walk_at "o"⟩
theorem pth_ok {m:Nat} {p:Probe} (h:POk m p):∀ k,POk m (pth m p k)
 | 0=>h
 | k+1=>adv_ok (pth_ok h k)
theorem beg_ok (m:Nat) (h:Int):POk m (beg m h):=rnd_ok (mod_le _ _)
theorem adv_run {m:Nat} {p:Probe} (h:p.more > 0):adv m p = { p with j:=p.j+1,more:=p.more - 1 }:=if_pos h
theorem adv_leap {m:Nat} {p:Probe} (h:p.more=0) (hd:p.dummy=none):adv m p=rnd m (leap m p.i p.perturb).1 (leap m p.i p.perturb).2:=by
 unfold adv
 rw [if_neg (by walk_at "o")]
 show ({ p with j:=_,more:=_,i:=_,perturb:=_ }:Probe)=_
 obtain ⟨j,mo,i,pt,d⟩:=p
 simp only at hd
 subst hd
 rfl
theorem pth_run {m:Nat} {p:Probe}:∀ (k:Nat),k≤p.more→pth m p k = { p with j:=p.j+k,more:=p.more - k }
 | 0,_=>rfl
 | k+1,h=>by
  show adv m (pth m p k)=_
  rw [pth_run k (by walk_at "o"),adv_run (by show p.more - k > 0;walk_at "o")]
  show ({ p with j:=p.j+k+1,more:=p.more - k - 1 }:Probe)=_
  rw [Nat.add_assoc,Nat.sub_sub]
noncomputable def lps (m:Nat):Nat→Nat × Nat→Nat × Nat
 | 0,x=>x
 | r+1,x=>lps m r (leap m x.1 x.2)
theorem round_at {m:Nat}:∀ (r i pt:Nat),i≤m→∃ k,k≤10*r∧pth m (rnd m i pt) k=rnd m (lps m r (i,pt)).1 (lps m r (i,pt)).2
 | 0,i,pt,_=>⟨0,by walk_at "o",rfl⟩
 | r+1,i,pt,h=>by
  have hi:(leap m i pt).1≤m:=by
   show (i*5+1+pt / 32) % (m+1)≤m
   exact mod_le _ _
  obtain ⟨k,hk,e⟩:=round_at r (leap m i pt).1 (leap m i pt).2 hi
  have hr:=runEnd_le h
  have run:=pth_run (m:=m) (p:=rnd m i pt) (runEnd m i - i) (Nat.le_refl _)
  have nxt:pth m (rnd m i pt) (runEnd m i - i+1)=rnd m (leap m i pt).1 (leap m i pt).2:=by
   show adv m (pth m (rnd m i pt) (runEnd m i - i))=_
   rw [run,adv_leap (by show (runEnd m i - i) - (runEnd m i - i)=0;walk_at "o") rfl]
  refine ⟨runEnd m i - i+1+k,by walk_at "o",?_⟩
  rw [pth_add,nxt]
  exact e
theorem lps_add (m:Nat):∀ (a b:Nat) (x:Nat × Nat),lps m (a+b) x=lps m b (lps m a x)
 | 0,b,x=>by rw [Nat.zero_add];rfl
 | a+1,b,x=>by rw [Nat.succ_add];exact lps_add m a b (leap m x.1 x.2)
theorem lps_snd (m:Nat):∀ (r:Nat) (x:Nat × Nat),(lps m r x).2=x.2 / 32 ^ r
 | 0,x=>(Nat.div_one _).symm
 | r+1,x=>by
  show (lps m r (leap m x.1 x.2)).2=_
  rw [lps_snd m r,show (leap m x.1 x.2).2=x.2 / 32 from rfl,Nat.div_div_eq_div_mul,Nat.pow_succ,Nat.mul_comm]
theorem lps_fst (m:Nat):∀ (r:Nat) (x:Nat × Nat),x.1≤m→(lps m r x).1≤m
 | 0,x,h=>h
 | r+1,x,h=>lps_fst m r _ (by
  show (x.1*5+1+x.2 / 32) % (m+1)≤m
  exact mod_le _ _)
theorem lcg7:∀ i,i<8→∀ e,e<8→∃ r,r<8∧(lps 7 r (i,0)).1=e:=by decide +kernel
theorem lcg31:∀ i,i<32→∀ e,e<32→∃ r,r<32∧(lps 31 r (i,0)).1=e:=by decide +kernel
theorem bits_lt (h:Int):bits h<2 ^ 64:=by
 unfold bits
 have h1:=Int.emod_nonneg h (show (2 ^ 64:Int)≠0 by decide)
 have h2:=Int.emod_lt_of_pos h (show (0:Int)<2 ^ 64 by decide)
 walk_at "o"
theorem cover_rounds {m:Nat} (hm:m=7∨m=31) {i pt:Nat} (hi:i≤m) (hp:pt<2 ^ 64) {e:Nat} (he:e≤m):∃ r,r<m+14∧(lps m r (i,pt)).1=e:=by
 have z:(lps m 13 (i,pt)).2=0:=by
  rw [lps_snd]
  exact Nat.div_eq_of_lt (Nat.lt_trans hp (by decide))
 have b:=lps_fst m 13 (i,pt) hi
 have split:lps m 13 (i,pt)=((lps m 13 (i,pt)).1,0):=by rw [← z]
 have:∃ r,r<m+1∧(lps m r ((lps m 13 (i,pt)).1,0)).1=e:=by
  rcases hm with rfl | rfl
  exact lcg7 _ (by walk_at "o") _ (by walk_at "o");exact lcg31 _ (by walk_at "o") _ (by walk_at "o")
 obtain ⟨r,hr,e'⟩:=this
 refine ⟨13+r,by walk_at "o",?_⟩
 rw [lps_add,split]
 exact e'
theorem cover {m:Nat} (hm:m=7∨m=31) (h:Int) {e:Nat} (he:e≤m):∃ k,k<10*turns m∧(pth m (beg m h) k).j=e:=by
 have hb:bits h % (m+1)≤m:=mod_le _ _
 obtain ⟨r,hr,e'⟩:=cover_rounds hm hb (bits_lt h) he
 obtain ⟨k,hk,ek⟩:=round_at r (bits h % (m+1)) (bits h) hb
 refine ⟨k,by unfold turns;walk_at "o",?_⟩
 rw [ek];exact e'
theorem least {P:Nat→Prop}:∀ {n:Nat},P n→∃ k,k≤n∧P k∧∀ k',k'<k→¬P k':=by
 intro n
 induction n using Nat.strongRecOn with
 | ind n ih=>
  intro hp
  by_cases h:∃ k,k<n∧P k
  ·obtain ⟨k,hk,pk⟩:=h
   obtain ⟨k',h1,h2,h3⟩:=ih k hk pk
   exact ⟨k',by walk_at "o",h2,h3⟩
  exact ⟨n,Nat.le_refl _,hp,fun k' hk pk=>h ⟨k',hk,pk⟩⟩
theorem not_all {m:Nat} {l:List Nat} (hn:l.Pairwise (· < ·)) (hl:l.length≤m):∃ e,e≤m∧e∉l:=by
 refine Classical.byContradiction fun hc=>?_
 have all:∀ e,e≤m→e∈l:=fun e he=>Classical.byContradiction fun q=>hc ⟨e,he,q⟩
 have key:∀ (n:Nat) (l:List Nat),l.Pairwise (· < ·)→(∀ e,e<n→e∈l)→n≤l.length:=by
  intro n
  induction n with
  | zero=>intro l _ _;walk_at "o"
  | succ n ih=>
   intro l hp ha
   have hn:=ha n (by walk_at "o")
   have:=ih (l.filter (·≠n)) (hp.filter _) fun e he=>List.mem_filter.mpr ⟨ha e (by walk_at "o"),by simp;walk_at "o"⟩
   have h2:(l.filter (·≠n)).length<l.length:=by
    exact List.length_filter_lt_length_iff_exists.mpr ⟨n,hn,by simp⟩
   walk_at "o"
 have:=key (m+1) l hn fun e he=>all e (by walk_at "o")
 walk_at "o"
end
section
open PySem SetTable
noncomputable def Rising (xs:Array Nat):Prop:=∀ i k,i<k→∀ (h:k<xs.size),xs.getD i 0<xs.getD k 0
theorem rising_of {xs:Array Nat} (h:xs.toList.Pairwise (· < ·)):Rising xs:=fun i k hik hk=>by
 have hi:i<xs.size:=by walk_at "o"
 rw [Array.getD_eq_getD_getElem?,Array.getD_eq_getD_getElem?,Array.getElem?_eq_getElem hi,Array.getElem?_eq_getElem hk]
 have:=List.pairwise_iff_getElem.mp h i k (by simpa using hi) (by simpa using hk) hik
 simpa using this
structure Below (xs:Array Nat) (j p:Nat):Prop where
 le:p≤xs.size
 lo:∀ i,i<p→xs.getD i 0<j
 hi:∀ i,p≤i→i<xs.size→j≤xs.getD i 0
theorem below_go {xs:Array Nat} (hr:Rising xs) {j:Nat}:∀ (fuel lo hi:Nat),lo≤hi→hi≤xs.size→hi - lo≤fuel→(∀ i,i<lo→xs.getD i 0<j)→(∀ i,hi≤i→i<xs.size→j≤xs.getD i 0)→Below xs j (below.go xs j fuel lo hi)
 | 0,lo,hi,h1,h2,h3,h4,h5=>by
  rw [below.go]
  exact ⟨by walk_at "o",h4,fun i a b=>h5 i (by walk_at "o") b⟩
 | fuel+1,lo,hi,h1,h2,h3,h4,h5=>by
  rw [below.go]
  by_cases hlt:lo<hi
  ·rw [if_pos hlt]
   have hm:xs.getD ((lo+hi) / 2) j=xs.getD ((lo+hi) / 2) 0:=by
    have:(lo+hi) / 2<xs.size:=by walk_at "o"
    rw [Array.getD_eq_getD_getElem?,Array.getD_eq_getD_getElem?,Array.getElem?_eq_getElem this];rfl
   dsimp only
   rw [hm]
   by_cases hc:xs.getD ((lo+hi) / 2) 0<j
   ·rw [if_pos hc]
    refine below_go hr fuel _ _ (by walk_at "o") h2 (by walk_at "o") (fun i hi'=>?_) h5
    by_cases e:i=(lo+hi) / 2
    ·rw [e];exact hc
    exact Nat.lt_trans (hr i ((lo+hi) / 2) (by walk_at "o") (by walk_at "o")) hc
   rw [if_neg hc]
   refine below_go hr fuel _ _ (by walk_at "o") (by walk_at "o") (by walk_at "o") h4 (fun i a b=>?_)
   by_cases e:i=(lo+hi) / 2
   ·rw [e];walk_at "o"
   have:=hr ((lo+hi) / 2) i (by walk_at "o") b
   walk_at "o"
  rw [if_neg hlt]
  exact ⟨by walk_at "o",h4,fun i a b=>h5 i (by walk_at "o") b⟩
theorem below_is {xs:Array Nat} (h:xs.toList.Pairwise (· < ·)) (j:Nat):Below xs j (below xs j):=by
 unfold below
 exact below_go (rising_of h) xs.size 0 xs.size (by walk_at "o") (Nat.le_refl _) (by walk_at "o") (fun i k=>by walk_at "o") (fun i a b=>by walk_at "o")
theorem getD_at {xs:Array Nat} {i:Nat} (h:i<xs.size):xs[i]?=some (xs.getD i 0):=by
 rw [Array.getD_eq_getD_getElem?,Array.getElem?_eq_getElem h];rfl
theorem slot_in {t:SetTable} (hr:t.place.toList.Pairwise (· < ·)) {i j:Nat} (h:t.place[i]?=some j):t.slot j=.live i:=by
 have B:=below_is hr j
 have hi:i<t.place.size:=(Array.getElem?_eq_some_iff.mp h).1
 have hv:t.place.getD i 0=j:=by rw [getD_at hi] at h;exact Option.some.inj h
 have e:below t.place j=i:=by
  rcases Nat.lt_trichotomy (below t.place j) i with q | q | q
  ·have:=rising_of hr _ i q hi
   have:=B.hi (below t.place j) (Nat.le_refl _) (by walk_at "o")
   walk_at "o"
  exact q
  have:=B.lo i q;walk_at "o"
 unfold SetTable.slot
 dsimp only
 rw [e,h]
 simp
theorem has_nil (j:Nat):has #[] j=false:=rfl
theorem slot_out {t:SetTable} (hd:t.dummies = #[]) {j:Nat} (h:j∉t.place.toList):t.slot j=.empty:=by
 unfold SetTable.slot
 have:(t.place[below t.place j]? == some j)=false:=by
  rw [beq_eq_false_iff_ne]
  intro e
  exact h (Array.mem_toList_iff.mpr (Array.mem_of_getElem? e))
 dsimp only
 rw [this,hd,has_nil]
 rfl
theorem slot_mem {t:SetTable} (hr:t.place.toList.Pairwise (· < ·)) {j:Nat} (h:j∈t.place.toList):∃ i,t.place[i]?=some j∧t.slot j=.live i:=by
 obtain ⟨i,hi,e⟩:=List.getElem_of_mem h
 have:t.place[i]?=some j:=by rw [← Array.getElem?_toList,List.getElem?_eq_getElem hi,e]
 exact ⟨i,this,slot_in hr this⟩
structure Base0 (t:SetTable):Prop where
 dum:t.dummies = #[]
 ris:t.place.toList.Pairwise (· < ·)
structure Way (t:SetTable) (h:Int) (K:Nat):Prop where
 free:(pth t.mask (beg t.mask h) K).j∉t.place.toList
 full:∀ k,k<K→(pth t.mask (beg t.mask h) k).j∈t.place.toList
inductive GoIs (t:SetTable) (hashAt:Nat→Int) (h:Int) (K k0:Nat):Met→Prop
 | free:(∀ k,k0≤k→k<K→∀ i,t.place[i]?=some (pth t.mask (beg t.mask h) k).j→hashAt i≠h)→GoIs t hashAt h K k0 (.empty (pth t.mask (beg t.mask h) K).j none)
 | cand {k i:Nat}:k0≤k→k<K→t.place[i]?=some (pth t.mask (beg t.mask h) k).j→hashAt i=h→(∀ k',k0≤k'→k'<k→∀ i,t.place[i]?=some (pth t.mask (beg t.mask h) k').j→hashAt i≠h) →
   GoIs t hashAt h K k0 (.candidate (pth t.mask (beg t.mask h) k).j i (pth t.mask (beg t.mask h) (k+1)))
theorem go_is {t:SetTable} (b:Base0 t) {hashAt:Nat→Int} {h:Int} {K:Nat} (w:Way t h K):∀ (fuel k0:Nat),k0≤K→K - k0<fuel→∃ m,probe.go t hashAt h fuel (pth t.mask (beg t.mask h) k0)=some m∧GoIs t hashAt h K k0 m
 | 0,k0,h1,h2=>by walk_at "o"
 | fuel+1,k0,h1,h2=>by
  rw [probe.go]
  have ok:=pth_ok (beg_ok t.mask h) k0
  by_cases e:k0=K
  ·subst e
   rw [slot_out b.dum w.free]
   dsimp only
   rw [ok.d]
   exact ⟨_,rfl,.free fun k a c=>by walk_at "o"⟩
  have hlt:k0<K:=by walk_at "o"
  obtain ⟨i,hi,hs⟩:=slot_mem b.ris (w.full k0 hlt)
  rw [hs]
  dsimp only
  by_cases hc:(hashAt i == h)=true
  ·rw [if_pos hc]
   exact ⟨_,rfl,.cand (Nat.le_refl _) hlt hi (beq_iff_eq.mp hc) fun k' a c=>by walk_at "o"⟩
  rw [if_neg hc]
  obtain ⟨m,hm,g⟩:=go_is b w fuel (k0+1) (by walk_at "o") (by walk_at "o")
  refine ⟨m,hm,?_⟩
  have ne:∀ i',t.place[i']?=some (pth t.mask (beg t.mask h) k0).j→hashAt i'≠h:=fun i' hi' q=>by
   have:=slot_in b.ris hi'
   rw [hs] at this
   cases this
   exact hc (beq_iff_eq.mpr q)
  cases g with
  | free f=>
   refine .free fun k a c=>?_
   by_cases e:k=k0
   ·rw [e];exact ne
   exact f k (by walk_at "o") c
  | cand a c d e f=>
   refine .cand (by walk_at "o") c d e fun k' a' c'=>?_
   by_cases e:k'=k0
   ·rw [e];exact ne
   exact f k' (by walk_at "o") c'
structure Tab (t:SetTable) (hs:List Int):Prop extends Base0 t where
 m:t.mask=7∨t.mask=31
 le:∀ j∈t.place.toList,j≤t.mask
 len:t.place.size=hs.length
 room:hs.length≤t.mask
 at_:∀ (i j:Nat) (h:Int),t.place[i]?=some j→hs[i]?=some h→∃ k,(pth t.mask (beg t.mask h) k).j=j∧∀ k',k'<k→(pth t.mask (beg t.mask h) k').j∈t.place.toList
theorem Tab.way {t:SetTable} {hs:List Int} (T:Tab t hs) (h:Int):∃ K,Way t h K∧K<10*turns t.mask:=by
 obtain ⟨e,he,hn⟩:=not_all T.ris (by rw [Array.length_toList,T.len];exact T.room)
 obtain ⟨k,hk,ek⟩:=cover T.m h he
 obtain ⟨K,h1,h2,h3⟩:=least (P:=fun k=>(pth t.mask (beg t.mask h) k).j∉t.place.toList) (n:=k) (by rw [ek];exact hn)
 exact ⟨K,⟨h2,fun k hk=>Classical.not_not.mp (h3 k hk)⟩,by walk_at "o"⟩
theorem Tab.probe {t:SetTable} {hs:List Int} (T:Tab t hs) {hashAt:Nat→Int} {h:Int} {K:Nat} (w:Way t h K) (hK:K<10*turns t.mask) {k0:Nat} (hk:k0≤K):∃ m,t.probe hashAt h (pth t.mask (beg t.mask h) k0)=some m∧GoIs t hashAt h K k0 m:=
 go_is T.toBase0 w _ k0 hk (by walk_at "o")
theorem Tab.fits {t:SetTable} {hs:List Int} (T:Tab t hs):t.fits hs.length=true:=by
 unfold SetTable.fits SetTable.fill
 rw [T.dum,T.len]
 have:=T.room
 simp [this]
theorem insertAt_toList {α:Type} (xs:Array α) (p:Nat) (x:α) (hp:p≤xs.size):(insertAt xs p x).toList=xs.toList.take p++x::xs.toList.drop p:=by
 unfold insertAt
 simp [Array.toList_extract,List.extract_eq_take_drop]
 exact List.take_of_length_le (by simp)
noncomputable def insL {α:Type} (xs:List α) (p:Nat) (x:α):List α:=xs.take p++x::xs.drop p
theorem insL_len {α:Type} {xs:List α} {p:Nat} {x:α}:(insL xs p x).length=xs.length+1:=by
 unfold insL;rw [List.length_append,List.length_cons,List.length_take,List.length_drop];walk_at "o"
theorem insL_mem {α:Type} {xs:List α} {p:Nat} {x y:α}:y∈insL xs p x↔y=x∨y∈xs:=by
 unfold insL
 rw [List.mem_append,List.mem_cons]
 conv=>rhs;rw [← List.take_append_drop p xs,List.mem_append]
 constructor
 ·rintro (h | h | h)
  exact .inr (.inl h);exact .inl h;exact .inr (.inr h)
 rintro (h | h | h)
 exact .inr (.inl h);exact .inl h;exact .inr (.inr h)
theorem insL_at {α:Type} {xs:List α} {p:Nat} {x:α} (hp:p≤xs.length) (i:Nat):(insL xs p x)[i]?=if i<p then xs[i]? else if i=p then some x else xs[i - 1]?:=by
 unfold insL
 have hl:(xs.take p).length=p:=by rw [List.length_take];walk_at "o"
 by_cases h1:i<p
 ·rw [if_pos h1,List.getElem?_append_left (by walk_at "o"),List.getElem?_take,if_pos h1]
 rw [if_neg h1,List.getElem?_append_right (by walk_at "o"),hl]
 by_cases h2:i=p
 ·rw [if_pos h2,h2,Nat.sub_self];rfl
 rw [if_neg h2]
 obtain ⟨d,rfl⟩:∃ d,i=p+1+d:=⟨i - p - 1,by walk_at "o"⟩
 rw [show p+1+d - p=d+1 by walk_at "o",List.getElem?_cons_succ,List.getElem?_drop]
 congr 1;walk_at "o"
theorem insL_map {α β:Type} (f:α→β) (xs:List α) (p:Nat) (x:α):(insL xs p x).map f=insL (xs.map f) p (f x):=by
 unfold insL;rw [List.map_append,List.map_cons,List.map_take,List.map_drop]
theorem Tab.put {t:SetTable} {hs:List Int} (T:Tab t hs) {h:Int} {K:Nat} (w:Way t h K) (hr:hs.length+1≤t.mask) :
  Tab (t.put (pth t.mask (beg t.mask h) K).j).1 (insL hs (t.put (pth t.mask (beg t.mask h) K).j).2 h)∧(t.put (pth t.mask (beg t.mask h) K).j).2≤hs.length∧(t.put (pth t.mask (beg t.mask h) K).j).1.mask=t.mask:=by
 generalize hj:(pth t.mask (beg t.mask h) K).j=j
 have jle:j≤t.mask:=by have:=(pth_ok (beg_ok t.mask h) K).j;rw [hj] at this;walk_at "o"
 have jn:j∉t.place.toList:=hj▸w.free
 have B:=below_is T.ris j
 have hd:(t.put j).1 = { t with place:=insertAt t.place (below t.place j) j }:=by
  unfold SetTable.put
  rw [T.dum,has_nil,← T.dum]
  rfl
 have hp:(t.put j).2=below t.place j:=rfl
 have tl:(t.put j).1.place.toList=insL t.place.toList (below t.place j) j:=by rw [hd];exact insertAt_toList _ _ _ B.le
 have hm:(t.put j).1.mask=t.mask:=by rw [hd]
 have getl:∀ i,i<t.place.size→t.place.toList[i]?=some (t.place.getD i 0):=fun i hi=>by rw [Array.getElem?_toList];exact getD_at hi
 have mem':∀ y,y∈t.place.toList→y∈(t.put j).1.place.toList:=fun y hy=>by rw [tl];exact insL_mem.mpr (.inr hy)
 refine ⟨{ dum:=by rw [hd];exact T.dum,ris:=?_,m:=by rw [hm];exact T.m,le:=fun y hy=>?_,len:=?_,room:=by rw [insL_len,hm];exact hr,at_:=fun i y h' e1 e2=>?_ },by rw [hp,← T.len];exact B.le,hm⟩
 ·rw [tl]
  unfold insL
  rw [List.pairwise_append]
  refine ⟨T.ris.sublist (List.take_sublist _ _),List.pairwise_cons.mpr ⟨fun y hy=>?_,T.ris.sublist (List.drop_sublist _ _)⟩,fun x hx y hy=>?_⟩
  ·obtain ⟨i,hi,e⟩:=List.getElem_of_mem hy
   rw [List.length_drop,Array.length_toList] at hi
   have h1:=B.hi (below t.place j+i) (by walk_at "o") (by walk_at "o")
   have h2:=getl (below t.place j+i) (by walk_at "o")
   rw [List.getElem_drop] at e
   rw [List.getElem?_eq_getElem (by rw [Array.length_toList];walk_at "o"),e] at h2
   have h2:=Option.some.inj h2
   have:y≠j:=fun q=>jn (q▸List.mem_of_mem_drop hy)
   walk_at "o"
  obtain ⟨i,hi,e⟩:=List.getElem_of_mem hx
  rw [List.length_take,Array.length_toList] at hi
  have h1:=B.lo i (by walk_at "o")
  have h2:=getl i (by walk_at "o")
  rw [List.getElem_take] at e
  rw [List.getElem?_eq_getElem (by rw [Array.length_toList];walk_at "o"),e] at h2
  have h2:=Option.some.inj h2
  have xj:x<j:=by walk_at "o"
  rcases List.mem_cons.mp hy with rfl | hy
  exact xj
  obtain ⟨i',hi',e'⟩:=List.getElem_of_mem hy
  rw [List.length_drop,Array.length_toList] at hi'
  have h3:=B.hi (below t.place j+i') (by walk_at "o") (by walk_at "o")
  have h4:=getl (below t.place j+i') (by walk_at "o")
  rw [List.getElem_drop] at e'
  rw [List.getElem?_eq_getElem (by rw [Array.length_toList];walk_at "o"),e'] at h4
  have h4:=Option.some.inj h4
  walk_at "o"
 ·rw [tl] at hy
  rw [hm]
  rcases insL_mem.mp hy with rfl | hy
  exact jle;exact T.le y hy
 ·rw [← Array.length_toList,tl,insL_len,insL_len,Array.length_toList,T.len]
 rw [hm]
 rw [← Array.getElem?_toList,tl,insL_at (by rw [Array.length_toList];exact B.le)] at e1
 rw [hp,insL_at (by rw [← T.len];exact B.le)] at e2
 by_cases h1:i<below t.place j
 ·rw [if_pos h1] at e1 e2
  rw [Array.getElem?_toList] at e1
  obtain ⟨k,a,b⟩:=T.at_ _ _ _ e1 e2
  exact ⟨k,a,fun k' hk=>mem' _ (b k' hk)⟩
 rw [if_neg h1] at e1 e2
 by_cases h2:i=below t.place j
 ·rw [if_pos h2] at e1 e2
  cases e1;cases e2
  exact ⟨K,hj,fun k' hk=>mem' _ (w.full k' hk)⟩
 rw [if_neg h2] at e1 e2
 rw [Array.getElem?_toList] at e1
 obtain ⟨k,a,b⟩:=T.at_ _ _ _ e1 e2
 exact ⟨k,a,fun k' hk=>mem' _ (b k' hk)⟩
end
section
open PySem SetTable
theorem free_is {m:Nat} {ow:Array (Option Nat)}:∀ (fuel i pt r:Nat),i≤m→r<fuel→(ow.getD (lps m r (i,pt)).1 (some 0)).isNone=true →
  ∃ j kk,layClean.free m ow fuel i pt=some j∧(pth m (rnd m i pt) kk).j=j∧(ow.getD j (some 0)).isNone=true∧∀ k',k'<kk→(ow.getD (pth m (rnd m i pt) k').j (some 0)).isNone=false
 | 0,i,pt,r,hi,hr,h=>by walk_at "o"
 | fuel+1,i,pt,r,hi,hr,h=>by
  rw [layClean.free]
  have re:=runEnd_le hi
  cases hf:(List.range (runEnd m i+1 - i)).find? fun k=>(ow.getD (i+k) (some 0)).isNone with
  | some k=>
   obtain ⟨h1,h2,h3⟩:=List.find?_range_eq_some.mp hf
   have h2:=List.mem_range.mp h2
   have run:∀ k',k'≤k→(pth m (rnd m i pt) k').j=i+k':=fun k' hk=>by rw [pth_run k' (by show k'≤runEnd m i - i;walk_at "o")]
   refine ⟨i+k,k,rfl,run k (Nat.le_refl _),h1,fun k' hk=>?_⟩
   rw [run k' (by walk_at "o")]
   simpa using h3 k' hk
  | none=>
   have h4:=List.find?_eq_none.mp hf
   cases r with
   | zero=>
    have:=h4 0 (List.mem_range.mpr (by walk_at "o"))
    exact absurd h this
   | succ r=>
    have hl:(leap m i pt).1≤m:=mod_le _ _
    obtain ⟨j,kk,a,b,c,d⟩:=free_is fuel (leap m i pt).1 (leap m i pt).2 r hl (by walk_at "o") h
    have run:=pth_run (m:=m) (p:=rnd m i pt) (runEnd m i - i) (Nat.le_refl _)
    have nxt:pth m (rnd m i pt) (runEnd m i - i+1)=rnd m (leap m i pt).1 (leap m i pt).2:=by
     show adv m (pth m (rnd m i pt) (runEnd m i - i))=_
     rw [run,adv_leap (by show (runEnd m i - i) - (runEnd m i - i)=0;walk_at "o") rfl]
    refine ⟨j,runEnd m i - i+1+kk,a,by rw [pth_add,nxt];exact b,c,fun k' hk=>?_⟩
    by_cases hk':k'<runEnd m i - i+1
    ·have:(pth m (rnd m i pt) k').j=i+k':=by rw [pth_run k' (by show k'≤runEnd m i - i;walk_at "o")]
     rw [this]
     have:=h4 k' (List.mem_range.mpr (by walk_at "o"))
     simpa only [Bool.not_eq_true] using this
    obtain ⟨x,rfl⟩:∃ x,k'=runEnd m i - i+1+x:=⟨k' - (runEnd m i - i+1),by walk_at "o"⟩
    rw [pth_add,nxt]
    exact d x (by walk_at "o")
structure Own' (m:Nat) (ow:Array (Option Nat)) (pre:List Int):Prop where
 size:ow.size=m+1
 lt:∀ j i,ow.getD j none=some i→i<pre.length
 inj:∀ j j' i,ow.getD j none=some i→ow.getD j' none=some i→j=j'
 at_:∀ (i:Nat) (h:Int),pre[i]?=some h→∃ kk,ow.getD (pth m (beg m h) kk).j none=some i∧∀ k',k'<kk→(ow.getD (pth m (beg m h) k').j none).isSome=true
theorem getD_any {ow:Array (Option Nat)} {j:Nat} (h:j<ow.size) (d:Option Nat):ow.getD j d=ow.getD j none:=by
 rw [Array.getD_eq_getD_getElem?,Array.getD_eq_getD_getElem?,Array.getElem?_eq_getElem h];rfl
theorem Own'.room {m:Nat} {ow:Array (Option Nat)} {pre:List Int} (O:Own' m ow pre) (hl:pre.length≤m):∃ e,e≤m∧ow.getD e none=none:=by
 refine Classical.byContradiction fun hc=>?_
 have all:∀ e,e≤m→∃ i,ow.getD e none=some i:=fun e he=>by
  cases h:ow.getD e none with
  | none=>exact absurd ⟨e,he,h⟩ hc
  | some i=>exact ⟨i,rfl⟩
 have:=List.Nodup.length_le_of_subset (l₁:=(List.range (m+1)).map fun e=>(ow.getD e none).getD 0) (l₂:=List.range pre.length) ?_ ?_
 ·simp at this;walk_at "o"
 ·unfold List.Nodup
  rw [List.pairwise_map]
  refine List.Pairwise.imp_of_mem ?_ (List.nodup_range (n:=m+1))
  intro a b ha hb hne e
  have ha:=List.mem_range.mp ha
  have hb:=List.mem_range.mp hb
  obtain ⟨i,hi⟩:=all a (by walk_at "o")
  obtain ⟨i',hi'⟩:=all b (by walk_at "o")
  rw [hi,hi'] at e
  have e:i=i':=e
  subst e
  exact hne (O.inj _ _ _ hi hi')
 intro x hx
 obtain ⟨e,he,rfl⟩:=List.mem_map.mp hx
 have he:=List.mem_range.mp he
 obtain ⟨i,hi⟩:=all e (by walk_at "o")
 rw [hi]
 exact List.mem_range.mpr (O.lt _ _ hi)
theorem getD_set {ow:Array (Option Nat)} {j j':Nat} {x:Option Nat} (h:j<ow.size):(ow.setIfInBounds j x).getD j' none=if j=j' then x else ow.getD j' none:=by
 rw [Array.getD_eq_getD_getElem?,Array.getElem?_setIfInBounds,Array.getD_eq_getD_getElem?]
 by_cases e:j=j'
 ·subst e;rw [if_pos rfl,if_pos rfl,if_pos h];rfl
 rw [if_neg e,if_neg e]
set_option tactic.hygienic true in
theorem Own'.step {m:Nat} (hm:m=7∨m=31) {ow:Array (Option Nat)} {pre:List Int} (O:Own' m ow pre) (hl:pre.length≤m) (h:Int) :
  ∃ j,layClean.free m ow (turns m) (bits h % (m+1)) (bits h)=some j∧Own' m (ow.setIfInBounds j (some pre.length)) (pre++[h]):=by
 obtain ⟨e,he,hn⟩:=O.room hl
 obtain ⟨r,hr,er⟩:=cover_rounds hm (mod_le (bits h) m) (bits_lt h) he
 obtain ⟨j,kk,a,b,c,d⟩:=free_is (ow:=ow) (turns m) (bits h % (m+1)) (bits h) r (mod_le _ _) (by unfold turns;walk_at "o") (by
  rw [er,getD_any (by rw [O.size];walk_at "o"),hn];rfl)
 have jle:j≤m:=by have:=(pth_ok (beg_ok m h) kk).j;rw [b] at this;walk_at "o"
 have jlt:j<ow.size:=by rw [O.size];walk_at "o"
 have jn:ow.getD j none=none:=by rw [getD_any jlt] at c;simpa using c
 have keep:∀ j' i,ow.getD j' none=some i→(ow.setIfInBounds j (some pre.length)).getD j' none=some i:=fun j' i q=>by
  rw [getD_set jlt,if_neg]
  exact q
  rintro rfl;rw [jn] at q;cases q
 refine ⟨j,a,by rw [Array.size_setIfInBounds];exact O.size,fun j' i q=>?_,fun j' j'' i q q'=>?_,fun i h' q=>?_⟩
 ·rw [List.length_append,List.length_singleton]
  rw [getD_set jlt] at q
  split at q
  ·cases q;walk_at "o"
  have:=O.lt _ _ q;walk_at "o"
 ·rw [getD_set jlt] at q q'
  split at q <;> split at q'
  ·rename_i e1 e2;exact e1.symm.trans e2
  ·cases q;have:=O.lt _ _ q';walk_at "o"
  ·cases q';have:=O.lt _ _ q;walk_at "o"
  exact O.inj _ _ _ q q'
 by_cases hi:i<pre.length
 ·rw [List.getElem?_append_left hi] at q
  obtain ⟨kk',x,y⟩:=O.at_ i h' q
  refine ⟨kk',keep _ _ x,fun k' hk=>?_⟩
  have:=y k' hk
  obtain ⟨z,hz⟩:=Option.isSome_iff_exists.mp this
  rw [keep _ _ hz];rfl
 rw [List.getElem?_append_right (by walk_at "o")] at q
 have hi0:i=pre.length:=by
  by_cases hx:i - pre.length=0
  ·walk_at "o"
  rw [List.getElem?_eq_none (by simp;walk_at "o")] at q;cases q
 subst hi0
 rw [Nat.sub_self] at q
 cases q
 refine ⟨kk,?_,fun k' hk=>?_⟩
 ·show (ow.setIfInBounds j _).getD (pth m (rnd m (bits h % (m+1)) (bits h)) kk).j none=_
  rw [b,getD_set jlt,if_pos rfl]
 have:=d k' hk
 have hj:=(pth_ok (beg_ok m h) k').j
 have hlt:(pth m (rnd m (bits h % (m+1)) (bits h)) k').j<ow.size:=by
  rw [O.size]
  have hj:(pth m (rnd m (bits h % (m+1)) (bits h)) k').j+(pth m (rnd m (bits h % (m+1)) (bits h)) k').more≤m:=hj
  walk_at "o"
 rw [getD_any hlt] at this
 cases hz:ow.getD (pth m (rnd m (bits h % (m+1)) (bits h)) k').j none with
 | none=>rw [hz] at this;cases this
 | some z=>rw [keep _ _ hz];rfl
theorem lay_fold {m:Nat} (hm:m=7∨m=31):∀ (rest pre:List Int) (ow:Array (Option Nat)),Own' m ow pre→pre.length+rest.length≤m+1 →
  ∃ ow',rest.foldl (fun acc h=>do
   let (owner,k) ← acc
   let j ← layClean.free m owner (turns m) (bits h % (m+1)) (bits h)
   pure (owner.setIfInBounds j (some k),k+1)) (some (ow,pre.length))=some (ow',(pre++rest).length)∧Own' m ow' (pre++rest)
 | [],pre,ow,O,_=>⟨ow,by simp,by simpa using O⟩
 | h::rest,pre,ow,O,hl=>by
  rw [List.length_cons] at hl
  obtain ⟨j,e,O'⟩:=O.step hm (by walk_at "o") h
  obtain ⟨ow',e',O''⟩:=lay_fold hm rest (pre++[h]) _ O' (by simp;walk_at "o")
  refine ⟨ow',?_,by simpa using O''⟩
  rw [List.foldl_cons]
  have:(do
   let (owner,k) ← some (ow,pre.length)
   let j ← layClean.free m owner (turns m) (bits h % (m+1)) (bits h)
   pure (owner.setIfInBounds j (some k),k+1):Option (Array (Option Nat) × Nat))=some (ow.setIfInBounds j (some pre.length),(pre++[h]).length):=by
   show (layClean.free m ow (turns m) (bits h % (m+1)) (bits h)).bind _=_
   rw [e,List.length_append];rfl
  rw [this,e']
  simp
theorem own_nil (m:Nat):Own' m (Array.replicate (m+1) none) []:=by
 have z:∀ j,(Array.replicate (m+1) (none:Option Nat)).getD j none=none:=fun j=>by
  rw [Array.getD_eq_getD_getElem?,Array.getElem?_replicate];split <;> rfl
 refine ⟨by simp,fun j i q=>?_,fun j j' i q=>?_,fun i h q=>by simp at q⟩
 ·rw [z] at q;cases q
 rw [z] at q;cases q
noncomputable def pick {α:Type} (l:List α) (ords:List Nat):List α:=ords.filterMap (l[·]?)
theorem pick_map {α β:Type} (f:α→β) (l:List α) (ords:List Nat):(pick l ords).map f=pick (l.map f) ords:=by
 unfold pick
 rw [List.map_filterMap]
 congr 1
 funext i
 simp
theorem pick_range {α:Type} (l:List α):pick l (List.range l.length)=l:=by
 unfold pick
 induction l with
 | nil=>rfl
 | cons x l ih=>
  rw [List.length_cons,List.range_succ_eq_map,List.filterMap_cons]
  simp only [List.getElem?_cons_zero]
  rw [List.filterMap_map]
  congr 1
theorem pick_perm {α:Type} {l:List α} {ords:List Nat} (h:ords.Perm (List.range l.length)):(pick l ords).Perm l:=by
 have:=h.filterMap (l[·]?)
 have e:=pick_range l
 unfold pick at e ⊢
 rwa [e] at this
theorem pick_at {α:Type} {l:List α}:∀ {ords:List Nat},(∀ i∈ords,i<l.length)→∀ n:Nat,(pick l ords)[n]?=ords[n]?.bind (fun i:Nat=>l[i]?)
 | [],_,n=>by simp [pick]
 | o::ords,h,n=>by
  have ho:=h o (.head _)
  have e:pick l (o::ords)=l[o]::pick l ords:=by
   unfold pick
   rw [List.filterMap_cons,List.getElem?_eq_getElem ho]
  rw [e]
  cases n with
  | zero=>simp [List.getElem?_eq_getElem ho]
  | succ n=>rw [List.getElem?_cons_succ,List.getElem?_cons_succ];exact pick_at (fun i hi=>h i (.tail _ hi)) n
theorem laid_is {m:Nat} (hm:m=7∨m=31) {hs:List Int} (hl:hs.length≤m) (finger moves:Nat) (led plain:Bool) :
  ∃ t ords,laid m finger moves led plain hs.toArray=some (t,ords.toArray)∧ords.Perm (List.range hs.length)∧Tab t (pick hs ords)∧t.mask=m∧t.led=led∧t.plain=plain:=by
 obtain ⟨ow,e,O⟩:=lay_fold hm hs [] _ (own_nil m) (by simp;walk_at "o")
 rw [List.nil_append] at e O
 have lc:layClean m hs.toArray=some ow:=by
  unfold layClean
  rw [← Array.foldl_toList]
  show Option.map _ (List.foldl _ _ hs)=_
  have e':List.foldl _ (some (Array.replicate (m+1) none,0)) hs=some (ow,hs.length):=e
  erw [e']
  rfl
 let P:List Nat:=(List.range (m+1)).filter fun j=>(ow.getD j none).isSome
 let f:Nat→Nat:=fun j=>(ow.getD j none).getD 0
 have live:(List.range (m+1)).filterMap (fun j=>(ow.getD j none).map (j,·))=P.map fun j=>(j,f j):=by
  show _=List.map _ (List.filter _ _)
  generalize List.range (m+1)=l
  induction l with
  | nil=>rfl
  | cons j l ih=>
   rw [List.filterMap_cons,List.filter_cons]
   cases h:ow.getD j none with
   | none=>
    rw [Option.map_none]
    simp only [Option.isSome_none,Bool.false_eq_true,if_false]
    exact ih
   | some i=>
    have hf:f j=i:=by show (ow.getD j none).getD 0=i;rw [h];rfl
    rw [Option.map_some]
    simp only [Option.isSome_some,if_true]
    rw [List.map_cons,ih,hf]
 have memP:∀ j,j∈P↔j≤m∧∃ i,ow.getD j none=some i:=fun j=>by
  show j∈List.filter _ _↔_
  rw [List.mem_filter,List.mem_range,Option.isSome_iff_exists]
  constructor
  ·rintro ⟨a,b⟩;exact ⟨by walk_at "o",b⟩
  rintro ⟨a,b⟩;exact ⟨by walk_at "o",b⟩
 have ndP:P.Pairwise (· < ·):=List.pairwise_lt_range.filter _
 have fAt:∀ j,j∈P→ow.getD j none=some (f j):=fun j hj=>by
  obtain ⟨_,i,hi⟩:=(memP j).mp hj
  show _=some ((ow.getD j none).getD 0)
  rw [hi];rfl
 have perm:(P.map f).Perm (List.range hs.length):=by
  refine (List.perm_ext_iff_of_nodup ?_ List.nodup_range).mpr fun i=>?_
  ·unfold List.Nodup
   rw [List.pairwise_map]
   refine List.Pairwise.imp_of_mem ?_ ndP
   intro a b ha hb hlt e
   have h1:=fAt a ha
   have h2:=fAt b hb
   rw [← e] at h2
   have:=O.inj _ _ _ h1 h2
   walk_at "o"
  rw [List.mem_map,List.mem_range]
  constructor
  ·rintro ⟨j,hj,rfl⟩
   exact O.lt _ _ (fAt j hj)
  intro hi
  obtain ⟨kk,a,b⟩:=O.at_ i hs[i] (List.getElem?_eq_getElem hi)
  refine ⟨_,(memP _).mpr ⟨?_,i,a⟩,?_⟩
  ·have:=(pth_ok (beg_ok m hs[i]) kk).j;walk_at "o"
  show (ow.getD _ none).getD 0=i
  rw [a];rfl
 have lt:∀ i∈P.map f,i<hs.length:=fun i hi=>List.mem_range.mp ((perm.mem_iff).mp hi)
 have plen:P.length=hs.length:=by have:=perm.length_eq;simpa using this
 have pl:(pick hs (P.map f)).length=hs.length:=by
  have:=(pick_perm perm).length_eq;exact this
 refine ⟨{ mask:=m,place:=P.toArray,dummies:=#[],finger,led,moves,plain },P.map f,?_,perm,?_,rfl,rfl,rfl⟩
 ·unfold laid
  rw [lc]
  show some _=some _
  have i1:P.map ((fun x:Nat × Nat=>x.1) ∘ fun j=>(j,f j))=P:=(List.map_congr_left (g:=id) fun _u _u=>rfl).trans (List.map_id P)
  rw [live,List.map_map,List.map_map,i1]
  rfl
 refine { dum:=rfl,ris:=ndP,m:=hm,le:=fun j hj=>((memP j).mp hj).1,len:=by rw [pl];simpa using plen,room:=by rw [pl];exact hl,at_:=fun i j h e1 e2=>?_ }
 rw [pick_at lt,List.getElem?_map] at e2
 have e1:P[i]?=some j:=by simpa using e1
 rw [e1] at e2
 have e2:hs[f j]?=some h:=e2
 obtain ⟨kk,a,b⟩:=O.at_ _ _ e2
 have hjP:j∈P:=List.mem_of_getElem? e1
 refine ⟨kk,O.inj _ _ _ a (fAt j hjP),fun k' hk=>?_⟩
 show _∈P
 obtain ⟨i',hi'⟩:=Option.isSome_iff_exists.mp (b k' hk)
 exact (memP (pth m (beg m h) k').j).mpr ⟨by have:=(pth_ok (beg_ok m h) k').j;walk_at "o",i',hi'⟩
end
section
section
variable {prog:Program} {w:World} {V:Addr→Prop}
noncomputable def tokOk (v:Value):Prop:=∀ i t,v=.int i t→t≠0
theorem byValue_key {n:Nat} {d:PyData} (hd:KeyD n d):∀ {A:Around} {E:Value→Shared→Prop} {s:Shared} {v:Value} {m:Nat} {Q:Bool→Shared→Prop},n≤m→Rd V s.heap v d→(∀ b,Q b s)→wpAny (model prog w) A (hashByValue m v) Q E s:=by
 induction hd with
 | int i=>intro A E s v m Q hm r h;obtain ⟨t,rfl⟩:=Rd.ofInt r;cases m <;> exact wpAny_pure (h _)
 | str x hx=>intro A E s v m Q hm r h;obtain ⟨t,rfl⟩:=Rd.ofStr r;cases m <;> exact wpAny_pure (h _)
 | @tup n xs hx ih=>
  intro A E s v m Q hm r h
  cases m with
  | zero=>walk_at "o"
  | succ m=>
  refine Rd.ofTuple r fun a o vs k na e c dd ra ev=>?_
  subst ev
  have hT:s.TypeIs (.ref a) "tuple":=⟨o,e,c.1⟩
  unfold hashByValue
  refine wpAny_bind (wpAny_specialOf hT F.slot_tuple_hash.lookup ?_)
  dsimp only
  refine wpAny_bind (wpAny_seqItems e dd ?_)
  refine wpAny_bind ?_
  show wpAny _ _ (forIn vs _ _) _ _ s
  rw [← Array.forIn_toList]
  refine wpAny_forIn_list _ (fun rest r s'=>s'=s∧∃ ds,RdAll V s.heap rest ds∧∀ d∈ds,d∈xs) _ ?_ ?_ _ _ ⟨rfl,xs,ra,fun _u k=>k⟩
  ·rintro v rest r s' ⟨rfl,ds,hrd,hin⟩
   refine hrd.uncons fun d ds r1 r2 ed=>?_
   subst ed
   refine wpAny_bind (ih d (hin d (.head _)) (by walk_at "o") r1 fun b=>?_)
   cases b
   ·refine wpAny_pure ?_
    exact wpAny_pure (h _)
   exact wpAny_pure ⟨rfl,ds,r2,fun d k=>hin d (.tail _ k)⟩
  rintro ⟨r1,r2⟩ s' ⟨rfl,_⟩
  cases r1 <;> exact wpAny_pure (h _)
theorem classStmt_key {n:Nat} {d:PyData} (hd:KeyD n d):∀ {A:Around} {E:Value→Shared→Prop} {s:Shared} {v:Value} {m:Nat} {Q:Bool→Shared→Prop},n≤m→Rd V s.heap v d→Q false s→wpAny (model prog w) A (ofAClassStatement m v) Q E s:=by
 induction hd with
 | int i=>intro A E s v m Q hm r h;obtain ⟨t,rfl⟩:=Rd.ofInt r;cases m <;> exact wpAny_pure h
 | str x hx=>intro A E s v m Q hm r h;obtain ⟨t,rfl⟩:=Rd.ofStr r;cases m <;> exact wpAny_pure h
 | @tup n xs hx ih=>
  intro A E s v m Q hm r h
  cases m with
  | zero=>walk_at "o"
  | succ m=>
  refine Rd.ofTuple r fun a o vs k na e c dd ra ev=>?_
  subst ev
  have hT:s.TypeIs (.ref a) "tuple":=⟨o,e,c.1⟩
  rw [ofAClassStatement]
  refine wpAny_bind (wpAny_typeOf hT ?_)
  dsimp only
  refine wpAny_bind ?_
  refine wpAny_pure ?_
  simp only [Bool.not_true,Bool.false_eq_true,if_false]
  refine wpAny_bind (wpAny_seqItems e dd ?_)
  dsimp only
  refine wpAny_bind ?_
  show wpAny _ _ (forIn vs _ _) _ _ s
  rw [← Array.forIn_toList]
  refine wpAny_forIn_list _ (fun rest r s'=>r.1=none∧s'=s∧∃ ds,RdAll V s.heap rest ds∧∀ d∈ds,d∈xs) _ ?_ ?_ _ _ ⟨rfl,rfl,xs,ra,fun _u k=>k⟩
  ·rintro v rest r s' ⟨hr,rfl,ds,hrd,hin⟩
   refine hrd.uncons fun d ds r1 r2 ed=>?_
   subst ed
   refine wpAny_bind (ih d (hin d (.head _)) (by walk_at "o") r1 ?_)
   simp only [Bool.false_eq_true,if_false]
   exact wpAny_pure ⟨rfl,rfl,ds,r2,fun d k=>hin d (.tail _ k)⟩
  rintro ⟨r1,r2⟩ s' ⟨hr,rfl,_⟩
  simp only at hr
  subst hr
  exact wpAny_pure h
inductive SAll (V:Addr→Prop) (h:Heap) (w:World):List (Int × Value)→List PyData→Prop
 | nil:SAll V h w [] []
 | cons {e:Int × Value} {es:List (Int × Value)} {d:PyData} {ds:List PyData}:Rd V h e.2 d→e.1=hashD w d→tokOk e.2→KeyD 6 d→SAll V h w es ds→SAll V h w (e::es) (d::ds)
theorem SAll.grow {X:Addr→Prop} {h h':Heap} {es:List (Int × Value)} {ds:List PyData} (r:SAll V h w es ds) (g:Grow X h h') (xv:∀ a,X a→V a):SAll V h' w es ds:=by
 induction r with
 | nil=>exact .nil
 | cons a b c d _ ih=>exact .cons (a.grow g xv) b c d ih
theorem SAll.len {h:Heap} {es:List (Int × Value)} {ds:List PyData} (r:SAll V h w es ds):es.length=ds.length:=by
 induction r with
 | nil=>rfl
 | cons _ _ _ _ _ ih=>rw [List.length_cons,List.length_cons,ih]
theorem SAll.at {h:Heap} {es:List (Int × Value)} {ds:List PyData} (r:SAll V h w es ds):∀ {i:Nat} {e:Int × Value},es[i]?=some e→∃ d,ds[i]?=some d∧Rd V h e.2 d∧e.1=hashD w d∧tokOk e.2∧KeyD 6 d:=by
 induction r with
 | nil=>intro i e h;simp at h
 | cons a b c d _ ih=>
  intro i e h
  cases i with
  | zero=>simp at h;subst h;exact ⟨_,rfl,a,b,c,d⟩
  | succ i=>rw [List.getElem?_cons_succ] at h ⊢;exact ih h
theorem SAll.back {h:Heap} {es:List (Int × Value)} {ds:List PyData} (r:SAll V h w es ds):∀ {i:Nat} {d:PyData},ds[i]?=some d→∃ e,es[i]?=some e∧Rd V h e.2 d∧e.1=hashD w d∧tokOk e.2∧KeyD 6 d:=by
 induction r with
 | nil=>intro i e h;simp at h
 | cons a b c d _ ih=>
  intro i e h
  cases i with
  | zero=>simp at h;subst h;exact ⟨_,rfl,a,b,c,d⟩
  | succ i=>rw [List.getElem?_cons_succ] at h ⊢;exact ih h
theorem SAll.take {h:Heap} {es:List (Int × Value)} {ds:List PyData} (r:SAll V h w es ds):∀ p,SAll V h w (es.take p) (ds.take p):=by
 induction r with
 | nil=>intro p;simp only [List.take_nil];exact .nil
 | cons a b c d _ ih=>intro p;cases p with
  | zero=>exact .nil
  | succ p=>exact .cons a b c d (ih p)
theorem SAll.drop {h:Heap} {es:List (Int × Value)} {ds:List PyData} (r:SAll V h w es ds):∀ p,SAll V h w (es.drop p) (ds.drop p):=by
 induction r with
 | nil=>intro p;simp only [List.drop_nil];exact .nil
 | cons a b c d r ih=>intro p;cases p with
  | zero=>exact .cons a b c d r
  | succ p=>exact ih p
theorem SAll.append {h:Heap} {es es':List (Int × Value)} {ds ds':List PyData} (r:SAll V h w es ds) (r':SAll V h w es' ds'):SAll V h w (es++es') (ds++ds'):=by
 induction r with
 | nil=>exact r'
 | cons a b c d _ ih=>exact .cons a b c d ih
theorem SAll.ins {h:Heap} {es:List (Int × Value)} {ds:List PyData} (r:SAll V h w es ds) {e:Int × Value} {d:PyData} (p:Nat) (a:Rd V h e.2 d) (b:e.1=hashD w d) (c:tokOk e.2) (k:KeyD 6 d):SAll V h w (insL es p e) (insL ds p d):=
 (r.take p).append (.cons a b c k (r.drop p))
theorem SAll.pick {h:Heap} {es:List (Int × Value)} {ds:List PyData} (r:SAll V h w es ds):∀ {ords:List Nat},SAll V h w (pick es ords) (Nz.pick ds ords)
 | []=>.nil
 | o::ords=>by
  have ih:=SAll.pick r (ords:=ords)
  unfold Nz.pick at ih ⊢
  rw [List.filterMap_cons,List.filterMap_cons]
  cases h1:es[o]? with
  | none=>
   have:ds[o]?=none:=by
    cases h2:ds[o]? with
    | none=>rfl
    | some d=>obtain ⟨e,he,_⟩:=r.back h2;rw [h1] at he;cases he
   rw [this];exact ih
  | some e=>
   obtain ⟨d,hd,a,b,c,k⟩:=r.at h1
   rw [hd];exact .cons a b c k ih
theorem SAll.hashes {h:Heap} {es:List (Int × Value)} {ds:List PyData} (r:SAll V h w es ds):es.map (·.1)=ds.map (hashD w):=by
 induction r with
 | nil=>rfl
 | cons _ b _ _ _ ih=>rw [List.map_cons,List.map_cons,b,ih]
theorem unseen {A:Around} {E:Value→Shared→Prop} {s:Shared} {x:Value} {d:PyData} (hd:KeyD 6 d) (r:Rd V s.heap x d) {l:List Value} {Q:Bool→Shared→Prop} (hl:∀ y∈l,∃ d',KeyD 6 d'∧Rd V s.heap y d') (h:Q false s) :
  wpAny (model prog w) A (searchCouldBeSeen x l) Q E s:=by
 unfold searchCouldBeSeen
 refine wpAny_bind ?_
 refine wpAny_forIn_list _ (fun rest r s'=>r.1=none∧s'=s∧∀ y∈rest,y∈l) _ ?_ ?_ _ _ ⟨rfl,rfl,fun _u k=>k⟩
 ·rintro y rest r0 s' ⟨hr,rfl,hin⟩
  obtain ⟨d',k',r'⟩:=hl y (hin y (.head _))
  have next:(none:Option Bool)=none∧s'=s'∧∀ y∈rest,y∈l:=⟨rfl,rfl,fun y k=>hin y (.tail _ k)⟩
  dsimp only
  refine ite_w (fun _u=>wpAny_pure next) fun _u=>?_
  refine wpAny_bind (quiet_key (n:=6) hd (by decide) r ?_)
  simp only [Bool.not_true,Bool.false_eq_true,if_false]
  refine wpAny_bind (quiet_key (n:=6) k' (by decide) r' ?_)
  simp only [Bool.not_true,Bool.false_eq_true,if_false]
  refine wpAny_bind (classStmt_key (n:=6) hd (by decide) r ?_)
  simp only [Bool.false_eq_true,if_false]
  refine wpAny_bind (classStmt_key (n:=6) k' (by decide) r' ?_)
  simp only [Bool.false_eq_true,if_false]
  exact wpAny_pure next
 rintro ⟨r1,r2⟩ s' ⟨hr,rfl,_⟩
 simp only at hr
 subst hr
 exact wpAny_pure h
theorem same_self {A:Around} {E:Value→Shared→Prop} {s:Shared} {x:Value} {d:PyData} (hd:KeyD 6 d) (r:Rd V s.heap x d) (ht:tokOk x) (hs:∀ y,d≠.str y) {Q:Bool→Shared→Prop} (h:Q true s):wpAny (model prog w) A (isSame x x) Q E s:=by
 cases hd with
 | int i=>
  obtain ⟨t,rfl⟩:=Rd.ofInt r
  have t0:=ht i t rfl
  have z:(t == 0||t == 0)=false:=by simp [t0]
  show wpAny _ _ (if (i == i&&smallInt i)=true then isSame.cachedInt t t else isSame.created (i == i) t t) _ _ _
  split
  ·unfold isSame.cachedInt
   rw [z]
   exact wpAny_bind (wpAny_rule (wpAny_pure h))
  unfold isSame.created
  rw [z]
  simp only [Bool.false_eq_true,if_false,beq_self_eq_true,if_true]
  exact wpAny_pure h
 | str x _=>exact absurd rfl (hs x)
 | tup _=>
  exact Rd.ofTuple r fun a o vs n na e c dd ra ev=>ev▸wpAny_isSame_ref_self h
end
end
section
section
variable {prog:Program} {w:World} {V:Addr→Prop}
theorem Tab.plain {t:SetTable} {hs:List Int} (T:Tab t hs) (b:Bool):Tab { t with plain:=b } hs:=⟨⟨T.dum,T.ris⟩,T.m,T.le,T.len,T.room,T.at_⟩
@[reducible] noncomputable def setObj (es:Array (Int × Value)) (ep:Nat) (t:SetTable):Obj:={ cls:=.type "set",dict:=none,data:=.set es ep t,slots:=#[] }
structure SetIn (w:World) (V:Addr→Prop) (h:Heap) (es:Array (Int × Value)) (t:SetTable) (kl:List PyData):Prop where
 all:SAll V h w es.toList kl
 tab:Tab t (kl.map (hashD w))
 nd:kl.Nodup
 free:kl.length*5<t.mask*3
 nos:∀ d∈kl,∀ y,d≠.str y
theorem SetIn.size {h:Heap} {es:Array (Int × Value)} {t:SetTable} {kl:List PyData} (S:SetIn w V h es t kl):es.size=kl.length:=by rw [← Array.length_toList];exact S.all.len
theorem SetIn.fits {h:Heap} {es:Array (Int × Value)} {t:SetTable} {kl:List PyData} (S:SetIn w V h es t kl):t.fits es.size=true:=by
 have:=S.tab.fits
 rwa [List.length_map,← S.size] at this
theorem place_inj {t:SetTable} (b:Base0 t) {i i' j:Nat} (h:t.place[i]?=some j) (h':t.place[i']?=some j):i=i':=by
 have e1:=slot_in b.ris h
 have e2:=slot_in b.ris h'
 rw [e1] at e2
 cases e2;rfl
theorem SetIn.slotOf {h:Heap} {es:Array (Int × Value)} {t:SetTable} {kl:List PyData} (S:SetIn w V h es t kl) {i:Nat} {d:PyData} (hd:kl[i]?=some d):∃ j,t.place[i]?=some j:=by
 have hi:i<kl.length:=(List.getElem?_eq_some_iff.mp hd).1
 have:=S.tab.len
 rw [List.length_map] at this
 exact ⟨_,Array.getElem?_eq_getElem (by walk_at "o")⟩
set_option maxHeartbeats 8000000 in
theorem search_is {a:Addr} {x:Value} {d:PyData} {es:Array (Int × Value)} {ep:Nat} {t:SetTable} {kl:List PyData} {A:Around} {E:Value→Shared→Prop} {s:Shared} {K:Nat} {Q:SetFound→Shared→Prop}
  (ho:s.heap.get? a=some (setObj es ep t)) (S:SetIn w V s.heap es t kl) (hd:KeyD 6 d) (ns:∀ y,d≠.str y) (r:Rd V s.heap x d) (hu:A.units+7<cLine)
  (W:Way t (hashD w d) K) (hK:K<10*SetTable.turns t.mask) (h1:d∈kl→Q (.there none) s) (h2:d∉kl→Q (.free (pth t.mask (beg t.mask (hashD w d)) K).j false) s) :
  ∀ (fuel k0:Nat) (st:Option SetTable.Probe),st.getD (t.probeStart (hashD w d))=pth t.mask (beg t.mask (hashD w d)) k0→k0≤K→K - k0<fuel →
   (d∈kl→∃ (i1 k1:Nat),kl[i1]?=some d∧t.place[i1]?=some (pth t.mask (beg t.mask (hashD w d)) k1).j∧k0≤k1∧k1<K) →
   wpAny (model prog w) A (setSearchFrom a x (hashD w d) true fuel st) Q E s:=by
 intro fuel
 induction fuel with
 | zero=>intro k0 st e hk hf H;walk_at "o"
 | succ fuel ih=>
  intro k0 st e hk hf H
  refine wpAny_bind (wpAny_setState_of ho rfl S.fits ?_)
  dsimp only
  have gw:t.gaveWay=false:=by unfold SetTable.gaveWay;rcases S.tab.m with e | e <;> rw [e] <;> rfl
  rw [gw,if_neg Bool.false_ne_true]
  rw [e]
  obtain ⟨m,hm,g⟩:=S.tab.probe (hashAt:=fun i:Nat=>((es[i]?:Option (Int × Value)).map (·.1)).getD 0) W hK hk
  have hashOf:∀ (i:Nat) d',kl[i]?=some d'→((es[i]?:Option (Int × Value)).map (·.1)).getD 0=hashD w d':=fun i d' hi=>by
   obtain ⟨e',he,_,hh,_⟩:=S.all.back hi
   rw [Array.getElem?_toList] at he
   rw [he];exact hh
  erw [hm]
  dsimp only
  cases g with
  | free f=>
   dsimp only
   refine wpAny_pure (h2 fun hin=>?_)
   obtain ⟨i1,k1,a1,a2,a3,a4⟩:=H hin
   exact f k1 a3 a4 i1 a2 (hashOf _ _ a1)
  | @cand k i c1 c2 c3 c4 c5=>
   dsimp only
   have hi:i<es.size:=by
    have:=(Array.getElem?_eq_some_iff.mp c3).1
    have:=S.tab.len
    rw [List.length_map,← S.size] at this
    walk_at "o"
   have hes:es.toList[i]?=some es[i]:=by rw [Array.getElem?_toList,Array.getElem?_eq_getElem hi]
   obtain ⟨d',hd',r',hh',ht',k'⟩:=S.all.at hes
   have rest:wpAny (model prog w) A (do
     let some (_,y):=es[i]? | unsupported "internal:set-entry"
     let equal ← holding [y] (eqBool y x)
     let (es',_,t') ← setState a
     if (true&&equal)=true then return .there none
     let some same':=t'.sameMemory t.moves t.mask | unsupported "set.changed-during-lookup:is-the-new-block-at-the-old-address"
     let still ← match (if same' then t'.slot (pth t.mask (beg t.mask (hashD w d)) k).j else .empty) with
      | .live i'=>match es'[i']? with
       | some (_,y')=>do pure (if ← isSame y' y then some i' else none)
       | none=>pure none
      | _=>pure none
     match still with
     | none=>rule "set.search.anew";setSearchFrom a x (hashD w d) true fuel none
     | some i'=>if equal then return .there (some i') else setSearchFrom a x (hashD w d) true fuel (some (pth t.mask (beg t.mask (hashD w d)) (k+1)))) Q E s:=by
    rw [Array.getElem?_eq_getElem hi]
    dsimp only
    refine wpAny_bind (wpAny_holding (eq_key k' hd (by walk_at "o") r' r ?_))
    refine wpAny_bind (wpAny_setState_of ho rfl S.fits ?_)
    dsimp only
    by_cases e:d'=d
    ·have he:PyData.eqv d' d=true:=(k'.eqv hd).mpr e
     rw [he]
     simp only [Bool.and_self,if_true]
     exact wpAny_pure (h1 (e▸List.mem_of_getElem? hd'))
    have he:PyData.eqv d' d=false:=by
     cases q:PyData.eqv d' d with
     | false=>rfl
     | true=>exact absurd ((k'.eqv hd).mp q) e
    rw [he]
    simp only [Bool.and_false,Bool.false_eq_true,if_false]
    have sm:t.sameMemory t.moves t.mask=some true:=by unfold SetTable.sameMemory;rw [if_pos (beq_self_eq_true _)]
    rw [sm]
    dsimp only
    rw [if_pos rfl,slot_in S.tab.ris c3]
    dsimp only
    rw [Array.getElem?_eq_getElem hi]
    dsimp only
    refine wpAny_bind (same_self k' r' ht' (S.nos _ (List.mem_of_getElem? hd')) (wpAny_bind (wpAny_pure ?_)))
    simp only [if_true]
    refine ih (k+1) _ rfl (by walk_at "o") (by walk_at "o") fun hin=>?_
    obtain ⟨i1,k1,a1,a2,a3,a4⟩:=H hin
    refine ⟨i1,k1,a1,a2,?_,a4⟩
    rcases Nat.lt_trichotomy k1 k with q | q | q
    exact absurd (hashOf _ _ a1) (c5 k1 a3 q i1 a2)
    ·subst q
     have:=place_inj S.tab.toBase0 a2 c3
     subst this
     rw [hd'] at a1
     exact absurd (Option.some.inj a1) e
    walk_at "o"
   refine ite_w (fun _u=>?_) fun _u=>rest
   refine wpAny_bind (unseen hd r (fun y hy=>?_) ?_)
   ·obtain ⟨e',he',rfl⟩:=List.mem_map.mp hy
    have he':e'∈es.toList:=by have q:=he';simp at q;exact Array.mem_toList_iff.mpr q.1
    obtain ⟨n,hn,en⟩:=List.getElem_of_mem he'
    obtain ⟨d2,_,r2,_,_,k2⟩:=S.all.at (List.getElem?_eq_getElem hn)
    rw [en] at r2
    exact ⟨d2,k2,r2⟩
   simp only [Bool.false_eq_true,if_false]
   exact rest
end
end
section
section
variable {prog:Program} {w:World} {V:Addr→Prop}
theorem scan_is {a:Addr} {x:Value} {d:PyData} {es:Array (Int × Value)} {ep:Nat} {t:SetTable} {A:Around} {E:Value→Shared→Prop} {s:Shared} {Q:ScanMet→Shared→Prop}
  (ho:s.heap.get? a=some (setObj es ep t)) (hf:t.fits es.size=true) (hd:KeyD 6 d) (r:Rd V s.heap x d) (hu:A.units+7<cLine) {l:List (Int × Value)} {dl:List PyData} (S:SAll V s.heap w l dl) :
  ∀ (i:Nat),(d∈dl→∀ j,Q (.found j) s)→(d∉dl→Q .absent s)→wpAny (model prog w) A (setScanFrom a x (hashD w d) true l i) Q E s:=by
 induction S with
 | nil=>intro i h1 h2;unfold setScanFrom;exact wpAny_pure (h2 (by simp))
 | @cons e es' d' ds c1 c2 c3 c4 c5 ih=>
  intro i h1 h2
  obtain ⟨h',y⟩:=e
  have c2:h'=hashD w d':=c2
  unfold setScanFrom
  by_cases hq:(h' == hashD w d)=true
  ·rw [if_pos hq]
   refine wpAny_bind (wpAny_setEpoch_of ho rfl hf (wpAny_bind (eq_key c4 hd (by walk_at "o") c1 r ?_)))
   by_cases e:d'=d
   ·rw [(c4.eqv hd).mpr e]
    simp only [Bool.and_self,if_true]
    exact wpAny_pure (h1 (by rw [e];exact .head _) i)
   have he:PyData.eqv d' d=false:=by
    cases q:PyData.eqv d' d with
    | false=>rfl
    | true=>exact absurd ((c4.eqv hd).mp q) e
   rw [he]
   simp only [Bool.and_false,Bool.false_eq_true,if_false]
   refine wpAny_bind (wpAny_setEpoch_of ho rfl hf ?_)
   simp only [bne_self_eq_false,Bool.false_eq_true,if_false]
   exact ih (i+1) (fun k=>h1 (.tail _ k)) fun k=>h2 fun q=>(List.mem_cons.mp q).elim (fun q=>e q.symm) k
  rw [if_neg hq]
  have e:d'≠d:=fun q=>hq (by rw [c2,q];exact beq_self_eq_true _)
  exact ih (i+1) (fun k=>h1 (.tail _ k)) fun k=>h2 fun q=>(List.mem_cons.mp q).elim (fun q=>e q.symm) k
theorem stored {h:Heap} {a:Addr} {es es':Array (Int × Value)} {ep:Nat} {t t':SetTable} (ho:h.get? a=some (setObj es ep t)) :
  (h.update a (Obj.putSet es' t')).get? a=some (setObj es' (ep+1) t'):=by
 have e:=putSet_of (o:=setObj es ep t) es' t' rfl
 have:=Heap.get?_update_self (Obj.putSet es' t') ho (by rw [e];rfl)
 rw [e] at this
 exact this
structure Relaid (w:World) (V:Addr→Prop) (h:Heap) (es:Array (Int × Value)) (t:SetTable) (kl:List PyData) (t2:SetTable) (es2:Array (Int × Value)) (ords:List Nat):Prop where
 eq:t.relaid (es.map (·.1)) (SetTable.grown es.size)=some (t2,ords.toArray)
 got:ords.toArray.filterMap (es[·]?)=es2
 size:es2.size=es.size
 perm:ords.Perm (List.range es.size)
 inn:SetIn w V h es2 t2 (pick kl ords)
theorem relay_is {h:Heap} {es:Array (Int × Value)} {t:SetTable} {kl:List PyData} (sa:SAll V h w es.toList kl) (T:Tab t (kl.map (hashD w))) (nd:kl.Nodup) (nos:∀ d∈kl,∀ y,d≠.str y) (h5:kl.length=5) :
  ∃ t2 es2 ords,Relaid w V h es t kl t2 es2 ords:=by
 have sz:es.size=5:=by rw [← Array.length_toList,sa.len,h5]
 have hh:es.map (·.1)=(kl.map (hashD w)).toArray:=by
  rw [← sa.hashes]
  apply Array.ext'
  simp
 obtain ⟨t2,ords,e,p,T2,m2,_,_⟩:=laid_is (m:=31) (.inr rfl) (hs:=kl.map (hashD w)) (by rw [List.length_map,h5];decide) t.finger (t.movedTo 31) t.led t.plain
 rw [List.length_map] at p
 have gr:SetTable.sizeAbove (SetTable.grown 5) - 1=31:=by decide +kernel
 refine ⟨t2,ords.toArray.filterMap (es[·]?),ords,?_,rfl,?_,by rw [sz,← h5];exact p,?_⟩
 ·unfold SetTable.relaid
  rw [sz,gr,hh]
  exact e
 ·have:(ords.toArray.filterMap (es[·]?)).toList=pick es.toList ords:=by
   rw [Array.toList_filterMap]
   unfold pick
   congr 1
   funext i
   rw [Array.getElem?_toList]
  rw [← Array.length_toList,this,(pick_perm (by rw [sa.len];exact p)).length_eq,Array.length_toList]
 have te:(ords.toArray.filterMap (es[·]?)).toList=pick es.toList ords:=by
  rw [Array.toList_filterMap]
  unfold pick
  congr 1
  funext i
  rw [Array.getElem?_toList]
 have pk:=pick_perm (l:=kl) p
 exact { all:=by rw [te];exact sa.pick,tab:=by rw [pick_map];exact T2,nd:=pk.nodup_iff.mpr nd,free:=by rw [m2,pk.length_eq,h5];decide,nos:=fun d hd=>nos d (pk.mem_iff.mp hd) }
theorem tooFull_is {t:SetTable} {hs:List Int} (T:Tab t hs):t.tooFull=decide (hs.length*5≥t.mask*3):=by
 unfold SetTable.tooFull SetTable.fill
 rw [T.dum,T.len];rfl
theorem lo_tab {t:SetTable} {n:Nat} (m:t.mask=7∨t.mask=31) (h1:n*5<t.mask*3) (h2:n≤17) (h3:(n+1)*5≥t.mask*3):n+1=5:=by
 rcases m with e | e <;> rw [e] at h1 h3 <;> walk_at "o"
noncomputable abbrev AddQ (w:World) (V:Addr→Prop) (a:Addr) (kl:List PyData) (d:PyData) (s:Shared) (Q:Bool→Shared→Prop):Prop:=
 ∀ h' es' ep' t' kl' b,Heap.SameBut a s.heap h'→h'.get? a=some (setObj es' ep' t')→SetIn w V h' es' t' kl'→(∀ y,y∈kl'↔y=d∨y∈kl)→kl'.length≤kl.length+1→Q b { s with heap:=h' }
structure AddG (w:World) (V:Addr→Prop) (h:Heap) (kl kl1:List PyData) (d:PyData) (es1:Array (Int × Value)) (t t':SetTable):Prop where
 all:SAll V h w es1.toList kl1
 pm:kl1.Perm (d::kl)
 hn:d∉kl
 nd:kl.Nodup
 nos:∀ y∈kl1,∀ z,y≠.str z
 hl:kl.length≤17
 hm:t.mask=7∨t.mask=31
 free:kl.length*5<t.mask*3
 tab:Tab t' (kl1.map (hashD w))
 m:t'.mask=t.mask
section
variable {a:Addr} {kl kl1:List PyData} {d:PyData} {es1:Array (Int × Value)} {t t':SetTable} {A:Around} {E:Value→Shared→Prop} {s:Shared} {Q:Bool→Shared→Prop}
theorem AddG.len {h:Heap} (G:AddG w V h kl kl1 d es1 t t'):kl1.length=kl.length+1:=G.pm.length_eq
theorem AddG.size {h:Heap} (G:AddG w V h kl kl1 d es1 t t'):es1.size=kl.length+1:=by rw [← Array.length_toList,G.all.len,G.len]
theorem AddG.nd1 {h:Heap} (G:AddG w V h kl kl1 d es1 t t'):kl1.Nodup:=G.pm.nodup_iff.mpr (List.nodup_cons.mpr ⟨G.hn,G.nd⟩)
theorem AddG.line {h:Heap} (G:AddG w V h kl kl1 d es1 t t'):es1.size≤sizeLine:=by rw [G.size];exact Nat.le_trans (Nat.succ_le_succ G.hl) (by decide)
theorem AddG.fin (G:AddG w V s.heap kl kl1 d es1 t t') (hV:V a) (h:AddQ w V a kl d s Q) {b:Bool} {h':Heap} {ep':Nat} (nf:¬(kl.length+1)*5≥t.mask*3) (sb:Heap.SameBut a s.heap h') (e:h'.get? a=some (setObj es1 ep' t')):Q b { s with heap:=h' }:=by
 refine h h' _ ep' t' kl1 b sb e ⟨G.all.grow (Grow.same (X:=fun b=>b=a) sb rfl) (fun b e=>e▸hV),G.tab,G.nd1,by rw [G.len,G.m];walk_at "o",G.nos⟩ (fun y=>G.pm.mem_iff.trans List.mem_cons) (Nat.le_of_eq G.len)
theorem AddG.relaid {h:Heap} (G:AddG w V h kl kl1 d es1 t t') (hf:(kl.length+1)*5≥t.mask*3):∃ t2 es2 ords,Relaid w V h es1 t' kl1 t2 es2 ords:=
 relay_is G.all G.tab G.nd1 G.nos (by rw [G.len];exact lo_tab G.hm G.free G.hl hf)
theorem AddG.finR (G:AddG w V s.heap kl kl1 d es1 t t') (hV:V a) (h:AddQ w V a kl d s Q) {b:Bool} {h':Heap} {ep':Nat} {t2:SetTable} {es2:Array (Int × Value)} {ords:List Nat} (Rl:Relaid w V s.heap es1 t' kl1 t2 es2 ords) (sb:Heap.SameBut a s.heap h') (e:h'.get? a=some (setObj es2 ep' t2)):Q b { s with heap:=h' }:=by
 have pk:=pick_perm (l:=kl1) (ords:=ords) (by have:=Rl.perm;rw [G.size] at this;rw [G.len];exact this)
 exact h h' _ ep' t2 _ b sb e ⟨Rl.inn.all.grow (Grow.same (X:=fun b=>b=a) sb rfl) (fun b e=>e▸hV),Rl.inn.tab,Rl.inn.nd,Rl.inn.free,Rl.inn.nos⟩ (fun y=>(pk.trans G.pm).mem_iff.trans List.mem_cons) (by rw [pk.length_eq];exact Nat.le_of_eq G.len)
theorem AddG.full {h:Heap} (G:AddG w V h kl kl1 d es1 t t'):t'.tooFull=decide ((kl.length+1)*5≥t.mask*3):=by rw [tooFull_is G.tab,List.length_map,G.len,G.m]
theorem AddG.tailS {es:Array (Int × Value)} {ep:Nat} (G:AddG w V s.heap kl kl1 d es1 t t') (ho:s.heap.get? a=some (setObj es ep t)) (hV:V a) (h:AddQ w V a kl d s Q) {g:Bool→Sem Unit} (hg:∀ (b:Bool) (s₁:Shared) (Q':Unit→Shared→Prop),Q' () s₁→wpAny (model prog w) A (g b) Q' E s₁)
  {R:Option Bool→Shared→Prop} (hR:∀ h',Q true { s with heap:=h' }→R (some true) { s with heap:=h' }) :
   wpAny (model prog w) A (do
    storeSet a es1 t'
    if (!false&&t'.tooFull)=true then do
     g (relayAll t' es1 (SetTable.grown es1.size)).2.2
     storeSet a (relayAll t' es1 (SetTable.grown es1.size)).1 (relayAll t' es1 (SetTable.grown es1.size)).2.1
     pure (some true)
    else pure (some true)) R E s:=by
 refine wpAny_bind (wpAny_storeSet_of ho rfl ?_ G.line)
 have st:=stored (es':=es1) (t':=t') ho
 have sb:=Heap.SameBut.update s.heap a (Obj.putSet es1 t')
 rw [G.full,Bool.not_false,Bool.true_and]
 by_cases hf:(kl.length+1)*5≥t.mask*3
 ·rw [decide_eq_true hf,if_pos rfl]
  obtain ⟨t2,es2,ords,R0⟩:=G.relaid hf
  have ra:relayAll t' es1 (SetTable.grown es1.size)=(es2,t2,false):=by
   unfold relayAll
   rw [R0.eq]
   dsimp only
   rw [R0.got]
   have c1:coversAll ords.toArray es1.size=true:=by
    unfold coversAll
    exact List.isPerm_iff.mpr R0.perm
   rw [c1,R0.inn.fits]
   rfl
  rw [ra]
  dsimp only
  refine wpAny_bind (hg _ _ _ ?_)
  refine wpAny_bind (wpAny_storeSet_of st rfl ?_ (by rw [R0.size];exact G.line))
  exact wpAny_pure (hR _ (G.finR hV h R0 (sb.trans (Heap.SameBut.update _ a _)) (stored st)))
 rw [decide_eq_false hf,if_neg Bool.false_ne_true]
 exact wpAny_pure (hR _ (G.fin hV h hf sb st))
theorem AddG.tailF {es:Array (Int × Value)} {ep:Nat} (G:AddG w V s.heap kl kl1 d es1 t t') (ho:s.heap.get? a=some (setObj es ep t)) (hV:V a) (h:AddQ w V a kl d s Q) (sz:es.size=kl.length) :
   wpAny (model prog w) A (do
    storeSet a es1 t'
    if (!false&&t'.tooFull)=true then do
     setRelay a (SetTable.grown (es.size+1))
     pure true
    else pure true) Q E s:=by
 refine wpAny_bind (wpAny_storeSet_of ho rfl ?_ G.line)
 have st:=stored (es':=es1) (t':=t') ho
 have sb:=Heap.SameBut.update s.heap a (Obj.putSet es1 t')
 have ft:t'.fits es1.size=true:=by
  have:=G.tab.fits
  rw [List.length_map,G.len] at this
  rw [G.size];exact this
 rw [G.full,Bool.not_false,Bool.true_and]
 by_cases hf:(kl.length+1)*5≥t.mask*3
 ·rw [decide_eq_true hf,if_pos rfl]
  obtain ⟨t2,es2,ords,R0⟩:=G.relaid hf
  refine wpAny_bind ?_
  unfold setRelay
  refine wpAny_bind (wpAny_setState_of st rfl ft ?_)
  dsimp only
  have e5:es.size+1=es1.size:=by rw [G.size,sz]
  rw [e5]
  refine ite_w (fun hc=>?_) fun _u=>?_
  ·exfalso
   rw [G.size,lo_tab G.hm G.free G.hl hf] at hc
   revert hc
   decide +kernel
  rw [R0.eq]
  refine wpAny_bind ?_
  show wpAny _ _ (ite ((ords.toArray.filterMap (es1[·]?)).size != es1.size) _ (pure (ords.toArray.filterMap (es1[·]?),t2))) _ _ _
  rw [R0.got,R0.size,if_neg (by simp)]
  refine wpAny_pure ?_
  dsimp only
  refine wpAny_storeSet_of st rfl ?_ (by rw [R0.size];exact G.line)
  exact wpAny_pure (G.finR hV h R0 (sb.trans (Heap.SameBut.update _ a _)) (stored st))
 rw [decide_eq_false hf,if_neg Bool.false_ne_true]
 exact wpAny_pure (G.fin hV h hf sb st)
end
theorem setIn_room {n m:Nat} (hm:m=7∨m=31) (h:n*5<m*3):n+1≤m:=by
 rcases hm with e | e <;> rw [e] at h ⊢ <;> walk_at "o"
theorem set_add {a:Addr} {x:Value} {d:PyData} {es:Array (Int × Value)} {ep:Nat} {t:SetTable} {kl:List PyData} {A:Around} {E:Value→Shared→Prop} {s:Shared} {Q:Bool→Shared→Prop}
  (ho:s.heap.get? a=some (setObj es ep t)) (S:SetIn w V s.heap es t kl) (hV:V a) (hd:KeyD 6 d) (ns:∀ y,d≠.str y) (tk:tokOk x) (r:Rd V s.heap x d) (hu:A.units+8<cLine) (hl:kl.length≤17)
  (h:∀ h' es' ep' t' kl' b,Heap.SameBut a s.heap h'→h'.get? a=some (setObj es' ep' t')→SetIn w V h' es' t' kl'→(∀ y,y∈kl'↔y=d∨y∈kl)→kl'.length≤kl.length+1→Q b { s with heap:=h' }) :
  wpAny (model prog w) A (setAddHashed a x (hashD w d)) Q E s:=by
 have sz:=S.size
 have there:∀ b,d∈kl→Q b s:=fun b hin=>by
  have:=h s.heap es ep t kl b (Heap.SameBut.refl _ _) ho S (fun y=>⟨.inr,fun k=>k.elim (fun e=>e▸hin) id⟩) (Nat.le_succ _)
  cases s;exact this
 obtain ⟨K,W,hK⟩:=S.tab.way (hashD w d)
 have hm:=S.tab.m
 obtain ⟨T1,hp,m1⟩:=S.tab.put W (by rw [List.length_map];exact setIn_room hm S.free)
 generalize hP:t.put (pth t.mask (beg t.mask (hashD w d)) K).j=P at T1 hp m1
 obtain ⟨t1,p⟩:=P
 dsimp only at T1 hp m1
 rw [← insL_map] at T1
 rw [List.length_map] at hp
 have al:SAll V s.heap w (SetTable.insertAt es p (hashD w d,x)).toList (insL kl p d):=by
  rw [insertAt_toList _ _ _ (by rw [sz];exact hp)]
  exact S.all.ins p r rfl tk hd
 have sz1:(SetTable.insertAt es p (hashD w d,x)).size=kl.length+1:=by rw [← Array.length_toList,al.len,insL_len]
 have G:∀ t',d∉kl→Tab t' ((insL kl p d).map (hashD w))→t'.mask=t.mask→AddG w V s.heap kl (insL kl p d) d (SetTable.insertAt es p (hashD w d,x)) t t':=fun t' hn T' m'=>
  ⟨al,by
   unfold insL
   refine List.perm_middle.trans (List.Perm.cons d ?_)
   rw [List.take_append_drop],hn,S.nd,fun y hy=>(insL_mem.mp hy).elim (fun e=>e▸ns) (S.nos y),hl,hm,S.free,T',m'⟩
 unfold setAddHashed setAddHashedIn
 refine wpAny_holding (wpAny_bind (wpAny_setState_of ho rfl S.fits ?_))
 dsimp only
 by_cases hb:byScan x es=true
 ·rw [if_pos hb]
  have xi:∃ i k,x=.int i k:=by
   have:x.scannable=true:=by
    unfold byScan at hb
    simp only [Bool.and_eq_true] at hb
    exact hb.1.1
   cases hd with
   | int i=>cases r with | int _ k=>exact ⟨_,_,rfl⟩
   | str y _=>exact absurd rfl (ns y)
   | tup _=>cases r;cases this
  unfold setAddByScan
  refine wpAny_bind (wpAny_bind (wpAny_rule (wpAny_bind ?_)))
  have sc:setScan a x (hashD w d) true es=setScanFrom a x (hashD w d) true es.toList 0:=by
   obtain ⟨i,k,rfl⟩:=xi;rfl
  rw [sc]
  refine scan_is ho S.fits hd r (by walk_at "o") S.all 0 (fun hin j=>?_) fun hn=>?_
  ·dsimp only
   exact wpAny_pure (wpAny_pure (there _ hin))
  dsimp only
  obtain ⟨m,hm',g⟩:=S.tab.probe (hashAt:=fun _u=>hashD w d+1) W hK (Nat.zero_le K)
  have hm':t.probe (fun _u=>hashD w d+1) (hashD w d) (t.probeStart (hashD w d))=some m:=hm'
  have fs:t.freeSlot (hashD w d)=some ((pth t.mask (beg t.mask (hashD w d)) K).j,false):=by
   unfold SetTable.freeSlot
   rw [hm']
   cases g with
   | free f=>rfl
   | cand c1 c2 c3 c4 c5=>walk_at "o"
  have ft:t1.fits (SetTable.insertAt es p (hashD w d,x)).size=true:=by
   have:=T1.fits
   rw [List.length_map,insL_len] at this
   rw [sz1];exact this
  have ln:layNew t es (hashD w d) x=(SetTable.insertAt es p (hashD w d,x),t1,false,false):=by
   unfold layNew
   rw [fs]
   dsimp only
   rw [hP]
   dsimp only
   unfold SetTable.orStandIn
   rw [ft];rfl
  rw [ln]
  dsimp only
  have hg:∀ (b:Bool) (s₁:Shared) (Q':Unit→Shared→Prop),Q' () s₁→wpAny (model prog w) A (match b with | true=>rule "set.scan.the-table-gave-way" | false=>pure ()) Q' E s₁:=fun b s₁ Q' hq=>by
   cases b
   exact wpAny_pure hq;exact wpAny_rule hq
  have back:∀ h',Q true { s with heap:=h' }→wpAny (model prog w) A (match (some true:Option Bool) with | some added=>pure added | none=>setAddHashedIn a x (hashD w d) 99999) Q E { s with heap:=h' }:=fun h' q=>wpAny_pure q
  refine wpAny_bind (hg false _ _ ?_)
  refine ite_w (fun _u=>?_) fun _u=>?_
  ·refine wpAny_bind (byValue_key (n:=6) hd (by decide) r fun b=>?_)
   cases b
   exact (G _ hn (T1.plain false) m1).tailS ho hV h hg back;exact (G _ hn T1 m1).tailS ho hV h hg back
  refine wpAny_bind (wpAny_pure ?_)
  exact (G _ hn T1 m1).tailS ho hV h hg back
 rw [if_neg hb]
 unfold setSearch
 have K5:K<100000:=by
  unfold SetTable.turns at hK
  rcases hm with e | e <;> rw [e] at hK <;> walk_at "o"
 refine wpAny_bind (search_is ho S hd ns r (by walk_at "o") W hK (fun hin=>wpAny_pure (there _ hin)) (fun hn=>?_) 100000 0 none rfl (Nat.zero_le _) (by walk_at "o") fun hin=>?_)
 ·dsimp only
  refine wpAny_bind (wpAny_setState_of ho rfl S.fits ?_)
  dsimp only
  rw [hP]
  dsimp only
  refine ite_w (fun _u=>?_) fun _u=>?_
  ·refine wpAny_bind (byValue_key (n:=6) hd (by decide) r fun b=>?_)
   cases b
   exact (G _ hn (T1.plain false) m1).tailF ho hV h sz;exact (G _ hn T1 m1).tailF ho hV h sz
  refine wpAny_bind (wpAny_pure ?_)
  exact (G _ hn T1 m1).tailF ho hV h sz
 obtain ⟨i1,hi,e1⟩:=List.getElem_of_mem hin
 have e1:kl[i1]?=some d:=by rw [List.getElem?_eq_getElem hi,e1]
 obtain ⟨j,hj⟩:=S.slotOf e1
 obtain ⟨k1,a1,a2⟩:=S.tab.at_ i1 j (hashD w d) hj (by rw [List.getElem?_map,e1];rfl)
 refine ⟨i1,k1,e1,by rw [a1];exact hj,Nat.zero_le _,?_⟩
 have hjm:j∈t.place.toList:=Array.mem_toList_iff.mpr (Array.mem_of_getElem? hj)
 rcases Nat.lt_trichotomy k1 K with q | q | q
 exact q
 ·subst q;exact absurd (a1▸hjm) W.free
 exact absurd (a2 K q) W.free
end
end
section
section
variable {prog:Program} {w:World} {V:Addr→Prop}
noncomputable def SetAt (w:World) (V:Addr→Prop) (h:Heap) (a:Addr) (mem:PyData→Prop):Prop:=∃ es ep t kl,h.get? a=some (setObj es ep t)∧SetIn w V h es t kl∧∀ y,y∈kl↔mem y
theorem SetAt.grow {X:Addr→Prop} {h h':Heap} {a:Addr} {mem:PyData→Prop} (r:SetAt w V h a mem) (g:Grow X h h') (xv:∀ a,X a→V a) (n:¬X a):SetAt w V h' a mem:=by
 obtain ⟨es,ep,t,kl,e,S,m⟩:=r
 exact ⟨es,ep,t,kl,g _ _ e n,⟨S.all.grow g xv,S.tab,S.nd,S.free,S.nos⟩,m⟩
structure ElOk (V:Addr→Prop) (h:Heap) (v:Value) (d:PyData):Prop where
 key:KeyD 6 d
 nos:∀ y,d≠.str y
 tok:tokOk v
 rd:Rd V h v d
theorem set_loop {A:Around} {R:Result→Shared→Prop} {S I l:Addr} {its:Array Value} {ds:List PyData} {h0:Heap} (hSI:S≠I) (hSl:S≠l) (hlI:l≠I) (hh:A.handled=none) (hu:A.units+20<cLine) (hVS:V S) (hVI:V I)
  (el:∀ (i:Nat) v,its[i]?=some v→∃ d,ds[i]?=some d∧ElOk V h0 v d) (len:ds.length=its.size) (hB:∀ kl:List PyData,kl.Nodup→(∀ y∈kl,y∈ds)→kl.length≤17) :
  ∀ (k i:Nat) (s:Shared),its.size - i=k→i≤its.size→Grow (fun b=>b=S∨b=I) h0 s.heap→s.heap.IsListIter I l i→s.heap.IsList l its→SetAt w V s.heap S (fun y=>y∈ds.take i) →
   (∀ h' tk,Grow (fun b=>b=S∨b=I) h0 h'→SetAt w V h' S (fun y=>y∈ds)→R (.ok (.ret .none)) { s with heap:=h',toks:=tk }) →
   codeAny (model prog w) A (.builtin "set.update.loop" ⟨[.ref S,.ref I],[]⟩) R s:=by
 have W:=Walks.list (prog:=prog) (w:=w) (A:=A.in1) (by simp [hh]) I l hlI its
 have xv:∀ b,(b=S∨b=I)→V b:=fun b k=>k.elim (fun e=>e▸hVS) fun e=>e▸hVI
 have xI:∀ b,b∈[I]→b=S∨b=I:=fun b k=>.inr (List.mem_singleton.mp k)
 intro k
 induction k with
 | zero=>
  intro i s hk hi g hit hls hS hR
  have e:i=its.size:=by walk_at "o"
  subst e
  refine codeAny_builtin PyProof.Rows.F.entry_set_update_loop ?_
  rw [Around.under_plainId PyProof.Rows.F.plain_set_update_loop _]
  show wpAny _ A.in1 (pyNext (.ref I) >>= _) _ _ s
  refine wpAny_bind (W.done s _ _ ⟨hit,hls⟩ fun h' tk hk'=>?_)
  show wpAny _ A.in1 (ret Value.none) _ _ _
  have g':Grow (fun b=>b=S∨b=I) s.heap h':=fun b o e n=>hk' b o (fun k=>n (xI b k)) e
  have gI:Grow (fun b=>b=I) s.heap h':=fun b o e n=>hk' b o (fun k=>n (List.mem_singleton.mp k)) e
  refine wpAny_pure (hR h' tk (g.trans g') ?_)
  have:=hS.grow gI (fun b e=>e▸hVI) hSI
  rwa [← len,List.take_length] at this
 | succ k ih=>
  intro i s hk hi g hit hls hS hR
  have hlt:i<its.size:=by walk_at "o"
  refine codeAny_builtin PyProof.Rows.F.entry_set_update_loop ?_
  rw [Around.under_plainId PyProof.Rows.F.plain_set_update_loop _]
  show wpAny _ A.in1 (pyNext (.ref I) >>= _) _ _ s
  refine wpAny_bind (W.item i s _ _ hlt ⟨hit,hls⟩ fun v h' tk hP hst hk'=>?_)
  obtain ⟨d,hd,E⟩:=el i v hP
  have g':Grow (fun b=>b=S∨b=I) s.heap h':=fun b o e n=>hk' b o (fun k=>n (xI b k)) e
  have gI:Grow (fun b=>b=I) s.heap h':=fun b o e n=>hk' b o (fun k=>n (List.mem_singleton.mp k)) e
  have rd':Rd V h' v d:=E.rd.grow (g.trans g') xv
  obtain ⟨es,ep,t,kl,e,SI,m⟩:=hS.grow gI (fun b e=>e▸hVI) hSI
  have sub:∀ y∈kl,y∈ds:=fun y hy=>List.mem_of_mem_take ((m y).mp hy)
  show wpAny _ A.in1 (holding [v] (setAdd S v) >>= _) _ _ _
  refine wpAny_bind (wpAny_holding ?_)
  unfold setAdd
  refine wpAny_holding ?_
  refine wpAny_bind (hash_key (V:=V) (n:=6) E.key (by show A.units+1+6<cLine;walk_at "o") rd' fun tk'=>?_)
  refine set_add (V:=V) e SI hVS E.key E.nos E.tok rd' (by show A.units+1+8<cLine;walk_at "o") (hB kl SI.nd sub) fun h2 es' ep' t' kl' b sb e2 SI2 m2 hl2=>?_
  have gS:Grow (fun b=>b=S) h' h2:=Grow.same sb rfl
  have it2:h2.IsListIter I l (i+1):=hst.1.at fun o e=>gS I o e (Ne.symm hSI)
  have ls2:h2.IsList l its:=hst.2.at fun o e=>gS l o e (Ne.symm hSl)
  refine wpAny_pure ⟨plainId_quiet PyProof.Rows.F.plain_set_update_loop _,ih (i+1) _ (by walk_at "o") hlt ((g.trans g').trans (gS.mono fun b k=>.inl k)) it2 ls2 ⟨es',ep',t',kl',e2,SI2,fun y=>?_⟩ fun h3 tk3 g3 S3=>hR h3 tk3 g3 S3⟩
  rw [m2,m,List.take_add_one,hd]
  show y=d∨y∈ds.take i↔y∈ds.take i++[d]
  rw [List.mem_append,List.mem_singleton]
  exact Or.comm
theorem set_call {A:Around} {E:Value→Shared→Prop} {s:Shared} {l:Addr} {its:Array Value} {ds:List PyData} {Q:Value→Shared→Prop} (hh:A.handled=none) (hu:A.units+40<cLine) (hl:s.heap.IsList l its) (hVlo:∀ b,V b→∃ o,s.heap.get? b=some o)
  (el:∀ (i:Nat) v,its[i]?=some v→∃ d,ds[i]?=some d∧ElOk V s.heap v d) (len:ds.length=its.size) (hB:∀ kl:List PyData,kl.Nodup→(∀ y∈kl,y∈ds)→kl.length≤17)
  (h:∀ h' tk a,Grow (fun _u=>False) s.heap h'→s.heap.get? a=none→SetAt w (fun b=>V b∨s.heap.get? b=none) h' a (fun y=>y∈ds)→Q (.ref a) { s with heap:=h',toks:=tk }) :
  wpAny (model prog w) A (call (.type "set") [.ref l]) Q E s:=by
 obtain ⟨c,tl,hmro⟩:=F.called_set.mro
 have hmade:=F.called_set.made
 have hsub:=F.called_set.sub
 refine wpAny_call (codeAny_of_tree ?_)
 show wpAny _ _ (callAny (.type "set") _) _ _ _
 refine wpAny_pure ⟨Code.quiet_builtin _ (by decide +kernel),codeAny_builtin F.entry_type_call ?_⟩
 rw [Around.under_plain (weight_type_call_type "set" [.ref l] []) rfl]
 have h1:=F.called_set.notType
 have h2:=F.called_set.canCreate
 have hct:=F.typeCall_set_1 (.ref l)
 repeat (any_goals (first | assumption | wp_step))
 let N:Addr:=s.heap.objs.size
 let fresh (led:Bool):Heap:=s.heap.push (setObj #[] 0 (.fresh 0 0 led))
 refine codeAny_mono (code_set_new_1 (.ref l) (E:=E) (Q₁:=fun obj s₁=>∃ led,obj=.ref N∧s₁ = { s with heap:=fresh led }) fun led=>⟨led,rfl,rfl⟩) fun r s₁ hr=>?_
 match r,hr with
 | .error e,hr=>exact hr
 | .ok (.ret obj),⟨led,e1,e2⟩=>
  subst e1 e2
  have hS:(fresh led).get? N=some (setObj #[] 0 (.fresh 0 0 led)):=Heap.get?_push_size _ rfl
  have hT:Shared.TypeIs { s with heap:=fresh led } (.ref N) "set":=⟨_,hS,rfl⟩
  have hli:=F.called_set.init.lookup
  have hbi:=F.called_set.init.bind (.ref N)
  repeat (any_goals (first | assumption | wp_step))
  have keep1:∀ b o,s.heap.get? b=some o→(fresh led).get? b=some o:=fun b o e=>Heap.get?_push_of_some _ e
  refine codeAny_mono (codeAny_call_builtin (R:=wants (fun r s₂=>r=.none∧∃ h' tk,s₂ = { s with heap:=h',toks:=tk }∧Grow (fun _u=>False) s.heap h'∧SetAt w (fun b=>V b∨s.heap.get? b=none) h' N (fun y=>y∈ds)) E) F.called_set.init.plain F.entry_set_init (check_set_init_1 hT ?_)) fun r₂ s₂ hr₂=>?_
  ·have hlS:l<N:=by obtain ⟨o,e,_⟩:=hl;exact Heap.lt_size e
   have hl1:(fresh led).IsList l its:=hl.at (keep1 l)
   obtain ⟨ol,hol,hcl,nl,hdl⟩:=id hl1
   obtain ⟨ocls,odict,odata,oslots⟩:=ol
   simp only at hcl hdl
   subst hcl
   subst hdl
   have hsls:=F.sub_list_set
   have hslf:=F.sub_list_frozenset
   have hne:(Value.type "list" == Value.type "dict")=false:=by decide
   unfold Builtin.«set.__init__» noKeywords Builtin.Frozenset.updateFrom
   generalize hPI:pyIter=PI
   wp_walk
   subst hPI
   refine wpAny_pyIter_list hl1 (wpAny_bind (wpAny_runValue ?_))
   have szN:(fresh led).objs.size=N+1:=Heap.size_push ..
   let H:Heap:=(fresh led).push { cls:=.type "list_iterator",data:=.fields #[.ref l,.int 0 0] }
   have keep2:∀ b o,(fresh led).get? b=some o→H.get? b=some o:=fun b o e=>Heap.get?_push_of_some _ e
   have none':∀ b,N≤b→s.heap.get? b=none:=fun b hb=>none_size _ hb
   have g0:Grow (fun _u=>False) s.heap H:=.of fun b o e=>keep2 b o (keep1 b o e)
   have to:∀ b,(V b∨s.heap.get? b=none)→V b∨s.heap.get? b=none:=fun b k=>k
   refine set_loop (V:=fun b=>V b∨s.heap.get? b=none) (h0:=H) (S:=N) (I:=(fresh led).objs.size) (l:=l) (its:=its) (ds:=ds) (by rw [szN];exact Nat.ne_of_lt (Nat.lt_succ_self _)) (Nat.ne_of_gt hlS) (by rw [szN];exact Nat.ne_of_lt (Nat.lt_succ_of_lt hlS)) (by simp [hh]) (by show A.units+1+1+20<cLine;walk_at "o") (.inr (none' _ (Nat.le_refl _))) (.inr (none' _ (by rw [szN];exact Nat.le_succ _)))
    (fun i v e=>?_) len hB (its.size - 0) 0 _ rfl (Nat.zero_le _) (Grow.refl _ _) ⟨_,Heap.get?_push_size _ rfl,rfl,rfl⟩ (hl1.at (keep2 l)) ?_ fun h' tk g S'=>?_
   ·obtain ⟨d,e',E'⟩:=el i v e
    exact ⟨d,e',E'.key,E'.nos,E'.tok,(E'.rd.to to).grow g0 fun _u k=>k.elim⟩
   ·refine ⟨#[],0,.fresh 0 0 led,[],keep2 _ _ hS,⟨.nil,⟨⟨rfl,List.Pairwise.nil⟩,.inl rfl,fun j hj=>by simp [SetTable.fresh] at hj,rfl,Nat.zero_le _,fun i j h e=>by simp [SetTable.fresh] at e⟩,List.nodup_nil,by show 0*5<7*3;decide,fun d hd=>by simp at hd⟩,fun y=>by simp⟩
   refine wpAny_pure ?_
   show wpAny _ _ (ret Value.none) _ _ _
   refine wpAny_pure ⟨rfl,h',tk,rfl,fun b o e _u=>?_,S'⟩
   have hb:=Heap.lt_size e
   exact g b o (g0 b o e fun k=>k) fun k=>k.elim (fun q=>Nat.lt_irrefl _ (q▸hb)) fun q=>by rw [q,szN] at hb;exact Nat.lt_irrefl _ (Nat.lt_of_succ_lt hb)
  match r₂,hr₂ with
  | .error e,hr₂=>exact hr₂
  | .ok (.ret r),hr₂=>
   obtain ⟨rfl,h',tk,rfl,g,S'⟩:=hr₂
   repeat (any_goals (first | assumption | wp_step))
   exact h h' tk N g (none_size _ (Nat.le_refl _)) S'
end
section
variable {S:Sys} {n:Nat} {env:Env} {ρ:List (Str × AV)} {σ σ₁:Sto}
noncomputable def ElD (x d:PyData):Prop:=(∃ i,x=mk i∧d=.int i)∨(∃ ys,x=.tuple ys∧d=.tuple ys∧KeyD 6 (.tuple ys))
theorem ElD.ok {V:Addr→Prop} {h:Heap} {v:Value} {x d:PyData} (e:ElD x d) (r:Rd V h v x):ElOk V h v d:=by
 rcases e with ⟨i,rfl,rfl⟩ | ⟨ys,rfl,rfl,k⟩
 ·obtain ⟨t,ht,rfl⟩:=Rd.ofMark r
  refine ⟨.int _,fun y e=>?_,fun i t' e=>?_,.int _ _⟩
  ·cases e
  cases e;exact ht
 refine ⟨k,fun y e=>?_,fun i t' e=>?_,r⟩
 ·cases e
 subst e;cases r
theorem ev_len_set {id1 id2:Str} {p1 p2 q1 q2:Pos} {e:Expr} {xs ds:List PyData} {k:Nat} (hlen:Ev S n env ρ σ (eval (.Name id1 p1) env) (.v (.builtin "len")) σ) (hset:Ev S n env ρ σ (eval (.Name id2 p2) env) (.v (.type "set")) σ)
  (h1:Ev S n env ρ σ (eval e env) (.d (.list xs)) σ₁) (hl:xs.length=ds.length) (hel:∀ (i:Nat) x,xs[i]?=some x→∃ d,ds[i]?=some d∧ElD x d) (hB:∀ kl:List PyData,kl.Nodup→(∀ y∈kl,y∈ds)→kl.length≤17)
  (hk:∀ kl:List PyData,kl.Nodup→(∀ y,y∈kl↔y∈ds)→kl.length=k)
  (hs1:(starEach [.Call (.Name id2 p2) [e] [] q2] env).all (fun p=>!p.1)=true:=by rfl) (hs1':(backTo q1 (starEach [.Call (.Name id2 p2) [e] [] q2] env)).any (·.1)=false:=by rfl)
  (hs2:(starEach [e] env).all (fun p=>!p.1)=true:=by rfl) (hs2':(backTo q2 (starEach [e] env)).any (·.1)=false:=by rfl)
  (he1:starEach [.Call (.Name id2 p2) [e] [] q2] env=(false,eval (.Call (.Name id2 p2) [e] [] q2) env)::starEach [] env:=by rfl) (he2:starEach [e] env=(false,eval e env)::starEach [] env:=by rfl) :
  Ev S n env ρ σ (eval (.Call (.Name id1 p1) [.Call (.Name id2 p2) [e] [] q2] [] q1) env) (.d (.int k)) σ₁:=by
 constructor;intro V A s Q E rm q h
 refine wpAny_Call_Name_kw (wpAny_pos rm.pos (hlen.run V A s _ E rm q fun v1 hA tA gA qA rA pA=>?_))
 have rA:_=_:=rA
 subst rA
 refine callWith_builtin hs1' (evalArgs_any (wpAny_items_cons ?_ he1) hs1)
 refine wpAny_Call_Name_kw (wpAny_pos pA (hset.run V A _ _ E (rm.at pA) qA fun v2 hB' tB gB qB rB pB=>?_))
 have rB:_=_:=rB
 subst rB
 refine PyProof.Rows.callWith_type hs2' (evalArgs_any (wpAny_items_cons (wpAny_pos pB (h1.run V A _ _ E (rm.at pB) qB fun v3 hC tC gC qC rC pC=>?_)) he2) hs2)
 refine spliced_nil ?_
 obtain ⟨a,its,rfl,na,hls,ra⟩:=Rd.isList rC
 refine set_call (V:=V) rm.h (by have:=rm.units;show A.units+40<cLine;walk_at "o") hls (fun b hb=>(qC.vok.2 b hb).2) (ds:=ds) (fun i v e=>?_) (by rw [← hl,← ra.size]) hB fun h' tk S' g hS' St=>?_
 ·have hi:i<xs.length:=by rw [← ra.size];exact (Array.getElem?_eq_some_iff.mp e).1
  obtain ⟨y,hy,ry⟩:=ra.at (List.getElem?_eq_getElem hi)
  rw [e] at hy
  cases hy
  obtain ⟨d,hd,E'⟩:=hel i _ (List.getElem?_eq_getElem hi)
  exact ⟨d,hd,E'.ok ry⟩
 refine spliced_nil ?_
 obtain ⟨es,ep,t,kl,e,SI,m⟩:=St
 have sz:=SI.size
 have hkl:=hk kl SI.nd m
 refine call_len_set e ⟨rfl,rfl,rfl⟩ rfl SI.fits (by have:=hB kl SI.nd (fun y hy=>(m y).mp hy);walk_at "o") ?_
 rw [sz,hkl]
 exact h _ h' _ (((gA.trans gB).trans gC).trans g.none) (qC.more g) (.int _ _)
end
end
local macro_rules | `(tactic| walk_at "m")=>`(tactic| focus with_reducible repeat' (first | exact List.mem_cons_self | refine List.mem_cons_of_mem _ ?_))
local macro_rules | `(tactic| walk_at "f")=>`(tactic| first | assumption | exact Fn'.toFn (by assumption))
local macro_rules | `(tactic| walk_at "k")=>`(tactic| first | decide | walk_at "o")
set_option tactic.hygienic true in
theorem mulOk {a b:Int} (h:a.natAbs<2 ^ 64):IntMulOk a b:=by
 refine IntMulOk.of_left ?_
 unfold Builtin.Int.intBits
 split
 ·walk_at "o"
 rename_i h0
 have:a.natAbs.log2<64:=(Nat.log2_lt (by intro e;apply h0;simpa using e)).mpr h
 walk_at "o"
set_option tactic.hygienic true in
theorem mulOk' {a b:Int} (h:b.natAbs<2 ^ 64):IntMulOk a b:=by
 refine IntMulOk.of_right ?_
 unfold Builtin.Int.intBits
 split
 ·walk_at "o"
 rename_i h0
 have:b.natAbs.log2<64:=(Nat.log2_lt (by intro e;apply h0;simpa using e)).mpr h
 walk_at "o"
local macro_rules | `(tactic| walk_at "b")=>`(tactic| first
 | (with_reducible first | exact bin_add | exact bin_sub | exact bin_and | exact bin_or | exact bin_xor)
 | ((with_reducible apply bin_mul);first | exact mulOk (by walk_at "o") | exact mulOk' (by walk_at "o"))
 | ((with_reducible apply bin_mod);walk_at "k"))
local macro_rules | `(tactic| walk_at "c")=>`(tactic| with_reducible first | exact cmp_eq | exact cmp_ne | exact cmp_lt | exact cmp_le | exact cmp_gt | exact cmp_ge)
theorem tr_is {S:Sys} {n:Nat} {env:Env} {ρ:List (Str × AV)} {σ σ':Sto} {t:Sem Bool} {b c:Bool} (h:Tr S n env ρ σ t c σ') (e:c=b):Tr S n env ρ σ t b σ':=e▸h
theorem bb_len:bootBuiltins "len"=some (.builtin "len"):=by kernel_rfl
theorem bb_abs:bootBuiltins "abs"=some (.builtin "abs"):=by kernel_rfl
theorem bb_sum:bootBuiltins "sum"=some (.builtin "sum"):=by kernel_rfl
theorem bb_sorted:bootBuiltins "sorted"=some (.builtin "sorted"):=by kernel_rfl
theorem bb_isinstance:bootBuiltins "isinstance"=some (.builtin "isinstance"):=by kernel_rfl
theorem bb_min:bootBuiltins "min"=some (.builtin "min"):=by kernel_rfl
theorem bb_max:bootBuiltins "max"=some (.builtin "max"):=by kernel_rfl
theorem bb_int:bootBuiltins "int"=some (.type "int"):=by kernel_rfl
theorem bb_bool:bootBuiltins "bool"=some (.type "bool"):=by kernel_rfl
theorem bb_range:bootBuiltins "range"=some (.type "range"):=by kernel_rfl
theorem bb_tuple:bootBuiltins "tuple"=some (.type "tuple"):=by kernel_rfl
theorem bb_set:bootBuiltins "set"=some (.type "set"):=by kernel_rfl
local macro_rules | `(tactic| walk_at "n")=>`(tactic| ((with_reducible apply ev_name);walk_at "f";walk_at "m";decide))
local macro_rules | `(tactic| walk_at "d")=>`(tactic| first | exact Fn'.binds (by assumption) (.inl rfl) | exact Fn'.binds (by assumption) (.inr rfl))
local macro_rules | `(tactic| walk_at "u")=>`(tactic| first | with_reducible exact upd_nil | ((with_reducible apply upd_here);exact upd_off rfl) | ((with_reducible apply upd_there);decide;walk_at "u"))
local macro_rules | `(tactic| walk_at "t")=>`(tactic| focus first | rfl | decide | (simp;done) | (simp;walk_at "o"))
local macro_rules | `(tactic| walk_at "1")=>`(tactic| with_reducible apply evs_cons)
local macro_rules | `(tactic| walk_at "2")=>`(tactic| with_reducible apply ex_cons)
local macro_rules | `(tactic| walk_at "3")=>`(tactic| with_reducible apply evd_cons)
local macro_rules | `(tactic| walk_at "4")=>`(tactic| with_reducible apply tr_cmp)
local macro_rules | `(tactic| walk_at "5")=>`(tactic| with_reducible apply tr_is)
local macro_rules | `(tactic| walk_at "g")=>`(tactic| ((with_reducible apply ev_glob);assumption;walk_at "f";rfl;k_is;decide))
local macro_rules | `(tactic| walk_at "6")=>`(tactic| with_reducible apply ex_cons_ret)
section
noncomputable def feedKv (cells:List Int) (k:Nat) (b:Int):List (PyData × AV):=[(.str "cells",.d (.list (cells.map .int))),(.str "count",.d (.int k)),(.str "blend",.d (.int b))]
noncomputable def drawOf (cells:List Int) (k:Nat) (b:Int) (many:Int):Int:=match cells[k]? with
 | some c=>(if c<0 then -c else c).fmod many
 | none=>((7*b+37*k*k+11*k+3).fmod 101).fmod many
theorem feed_count {cells:List Int} {k:Nat} {b:Int}:kvGet (feedKv cells k b) (.str "count")=some (.d (.int k)):=by
 rw [feedKv,kvGet_skip (by decide +kernel),kvGet_hit (by decide +kernel)]
theorem feed_cells {cells:List Int} {k:Nat} {b:Int}:kvGet (feedKv cells k b) (.str "cells")=some (.d (.list (cells.map .int))):=by
 rw [feedKv,kvGet_hit (by decide +kernel)]
theorem feed_blend {cells:List Int} {k:Nat} {b:Int}:kvGet (feedKv cells k b) (.str "blend")=some (.d (.int b)):=by
 rw [feedKv,kvGet_skip (by decide +kernel),kvGet_skip (by decide +kernel),kvGet_hit (by decide +kernel)]
theorem feed_set {cells:List Int} {k:Nat} {b i:Int} (hi:i=((k+1:Nat):Int)):kvSet (feedKv cells k b) (.str "count") (.d (.int i))=feedKv cells (k+1) b:=by
 rw [feedKv,kvSet_skip (by decide +kernel),kvSet_hit (by decide +kernel),hi];rfl
theorem feed_kok {cells:List Int} {k:Nat} {b:Int}:(feedKv cells k b).length=3:=rfl
variable {B:Base} {R:Addr→Prop} {lo:∀ a,R a→B.h₁.get? a=none} {σ:Sto}
theorem c_draw (hK:(KZ B.w.params).In B.h₁) {F:Addr} (rF:R F) {cells:List Int} {k:Nat} {b many:Int} (hσ:σ F=some (.dict (feedKv cells k b))) (hc:cells.length≤40) (hk:k<1000) (hm:0<many) (hb:0≤b) (hb':b<100000) :
  FS (B.sys R lo) 1 863 [.v (.ref F),.d (.int many)] σ (.d (.int (drawOf cells k b many))) (put σ F (.dict (feedKv cells (k+1) b))):=by
 refine fs_def (names:=["feed","many"]) hK ?h
 case h=>
  intro env f
  change Ex _ _ _ [("feed",_),("many",_)] _ _ _
  have kk:KeyD 6 (.str "count"):=.str _ (by decide +kernel)
  have kc:KeyD 6 (.str "cells"):=.str _ (by decide +kernel)
  have kb:KeyD 6 (.str "blend"):=.str _ (by decide +kernel)
  have s1:put σ F (.dict (feedKv cells (k+1) b)) F=some (.dict (feedKv cells (k+1) b)):=put_here
  have kn:(0:Int)≤(k:Int):=by walk_at "o"
  have kl:(k:Int)<1000:=by walk_at "o"
  walk_at "2";(with_reducible apply ex_assign);walk_at "f";walk_at "d";(with_reducible apply ev_subW);walk_at "n";exact ev_str;exact opw_ditem rF hσ kk feed_count;walk_at "u";rfl;walk_at "2"
  ·with_reducible apply ex_dset
   (with_reducible apply ev_bin);walk_at "n";exact ev_int;walk_at "b";walk_at "n";exact ev_str;exact rF;exact hσ;exact kk
   ·rw [feed_kok];decide
   rfl
  rw [feed_set (by simp)]
  by_cases hkc:k<cells.length
  ·have hd':drawOf cells k b many=(if cells[k]<0 then -cells[k] else cells[k]).fmod many:=by unfold drawOf;rw [List.getElem?_eq_getElem hkc]
   rw [hd']
   walk_at "6";(with_reducible apply ex_if (b:=true))
   ·walk_at "5"
    walk_at "4";walk_at "n";(with_reducible apply ev_callb);((with_reducible apply ev_blt);assumption;walk_at "f";rfl;k_is;exact bb_len;decide;decide);walk_at "1";(with_reducible apply ev_subW);walk_at "n";exact ev_str;exact opw_ditem rF s1 kc feed_cells;exact evs_nil;rfl;exact blt_len_list (by simp;walk_at "o");rfl;rfl;walk_at "c";(with_unfolding_all rfl)
    simp;walk_at "o"
   ·intro _
    walk_at "6";(with_reducible apply ex_ret;apply ev_bin)
    ·with_reducible apply ev_callb
     ((with_reducible apply ev_blt);assumption;walk_at "f";rfl;k_is;exact bb_abs;decide;decide)
     ·walk_at "1"
      ·with_reducible apply ev_sub
       (with_reducible apply ev_subW);walk_at "n";exact ev_str;exact opw_ditem rF s1 kc feed_cells;walk_at "n"
       refine sub_list (x:=.int cells[k]) (by simp) (by walk_at "o") (by walk_at "o") ?_
       have e:placeOf (k:Int) (cells.map PyData.int).length=k:=by unfold placeOf;rw [if_neg (by walk_at "o")];simp
       rw [e];simp [hkc]
      exact evs_nil;rfl
     exact blt_abs;rfl;rfl
    walk_at "n";walk_at "b"
   intro h;cases h
  have hd':drawOf cells k b many=((7*b+37*k*k+11*k+3).fmod 101).fmod many:=by unfold drawOf;rw [List.getElem?_eq_none (by walk_at "o")]
  rw [hd']
  walk_at "2"
  ·with_reducible apply ex_if (b:=false)
   ·walk_at "5"
    walk_at "4";walk_at "n";(with_reducible apply ev_callb);((with_reducible apply ev_blt);assumption;walk_at "f";rfl;k_is;exact bb_len;decide;decide);walk_at "1";(with_reducible apply ev_subW);walk_at "n";exact ev_str;exact opw_ditem rF s1 kc feed_cells;exact evs_nil;rfl;exact blt_len_list (by simp;walk_at "o");rfl;rfl;walk_at "c";(with_unfolding_all rfl)
    simp;walk_at "o"
   intro h;cases h
   intro _
   exact ex_nil
  walk_at "6";(with_reducible apply ex_ret;apply ev_bin;apply ev_bin;apply ev_bin;apply ev_bin;apply ev_bin;apply ev_bin);exact ev_int;(with_reducible apply ev_subW);walk_at "n";exact ev_str;exact opw_ditem rF s1 kb feed_blend;walk_at "b";(with_reducible apply ev_bin;apply ev_bin);exact ev_int;walk_at "n";walk_at "b";walk_at "n";walk_at "b";walk_at "b";(with_reducible apply ev_bin);exact ev_int;walk_at "n";walk_at "b";walk_at "b";exact ev_int;walk_at "b";exact ev_int;walk_at "b";walk_at "n";walk_at "b"
end
section
variable {B:Base} {R:Addr→Prop} {lo:∀ a,R a→B.h₁.get? a=none} {σ:Sto}
@[reducible] noncomputable def bit0:PyData:=.tuple [.str "bit",.int 0,.int 9]
@[reducible] noncomputable def bit1:PyData:=.tuple [.str "bit",.int 1,.int 9]
@[reducible] noncomputable def spots:List PyData:=[mk 2,mk 3,mk 4,bit0,bit1]
theorem c_spots (hK:(KZ B.w.params).In B.h₁):FS (B.sys R lo) 1 856 [] σ (.d (.list spots)) σ:=by
 refine fs_def (names:=[]) hK ?h
 case h=>
  intro env f
  change Ex _ _ _ [] _ _ _
  walk_at "6";(with_reducible apply ex_ret;apply ev_list);walk_at "3";exact ev_mint;walk_at "3";exact ev_mint;walk_at "3";exact ev_mint;walk_at "3";(with_reducible apply ev_tuple);walk_at "3";exact ev_str;walk_at "3";exact ev_int;walk_at "3";exact ev_int;exact evd_nil;rfl;rfl;rfl;rfl;walk_at "3";(with_reducible apply ev_tuple);walk_at "3";exact ev_str;walk_at "3";exact ev_int;walk_at "3";exact ev_int;exact evd_nil;rfl;rfl;rfl;rfl;exact evd_nil;rfl;rfl;rfl;rfl;rfl;rfl
inductive Fm
 | atom (i:Nat)
 | tt | ff
 | not (f:Fm)
 | or (f g:Fm) | and (f g:Fm) | iff (f g:Fm) | xor (f g:Fm)
noncomputable def spotAt (i:Nat):PyData:=(spots[i]?).getD .none
noncomputable def Fm.data:Fm→PyData
 | .atom i=>.tuple [.str "atom",spotAt i]
 | .tt=>.tuple [.str "true"]
 | .ff=>.tuple [.str "false"]
 | .not f=>.tuple [.str "not",f.data]
 | .or f g=>.tuple [.str "or",f.data,g.data]
 | .and f g=>.tuple [.str "and",f.data,g.data]
 | .iff f g=>.tuple [.str "iff",f.data,g.data]
 | .xor f g=>.tuple [.str "xor",f.data,g.data]
end
section
theorem put_put {σ:Sto} {a:Addr} {m m':Mut}:put (put σ a m) a m'=put σ a m':=by funext b;unfold put;split <;> rfl
variable {B:Base} {R:Addr→Prop} {lo:∀ a,R a→B.h₁.get? a=none} {σ:Sto}
structure Feed (R:Addr→Prop) (F:Addr) (cells:List Int) (b:Int):Prop where
 r:R F
 c:cells.length≤40
 lo:0≤b
 hi:b<100000
@[reducible] noncomputable def fw (σ:Sto) (F:Addr) (cells:List Int) (b:Int) (k:Nat):Sto:=put σ F (.dict (feedKv cells k b))
theorem c_drawP (hK:(KZ B.w.params).In B.h₁) {F:Addr} {cells:List Int} {k:Nat} {b many:Int} (fd:Feed R F cells b) (hk:k<1000) (hm:0<many) :
  FS (B.sys R lo) 1 863 [.v (.ref F),.d (.int many)] (fw σ F cells b k) (.d (.int (drawOf cells k b many))) (fw σ F cells b (k+1)):=by
 have:=c_draw (σ:=fw σ F cells b k) (lo:=lo) hK fd.r put_here fd.c hk hm fd.lo fd.hi
 rwa [put_put] at this
theorem draw_lo {cells:List Int} {k:Nat} {b many:Int} (hm:0<many):0≤drawOf cells k b many:=by
 unfold drawOf
 split <;> (rw [Int.fmod_eq_emod_of_nonneg _ (by walk_at "o")];exact Int.emod_nonneg _ (by walk_at "o"))
theorem draw_hi {cells:List Int} {k:Nat} {b many:Int} (hm:0<many):drawOf cells k b many<many:=by
 unfold drawOf
 split <;> (rw [Int.fmod_eq_emod_of_nonneg _ (by walk_at "o")];exact Int.emod_lt_of_pos _ hm)
noncomputable def mkF (w:Int) (f g:Fm):Fm:=if w=0 then .or f g else if w=3 then .iff f g else if w=4 then .xor f g else .and f g
noncomputable def formOf (dr:Nat→Int→Int):Nat→Nat→Fm × Nat
 | 0,k=>(.atom (dr k 5).toNat,k+1)
 | d+1,k=>
  if dr k 8=7 then (.atom (dr (k+1) 5).toNat,k+2)
  else if dr k 8=6 then (if dr (k+1) 2=0 then .tt else .ff,k+2)
  else if dr k 8=1 then (.not (formOf dr d (k+1)).1,(formOf dr d (k+1)).2)
  else (mkF (dr k 8) (formOf dr d (k+1)).1 (formOf dr d (formOf dr d (k+1)).2).1,(formOf dr d (formOf dr d (k+1)).2).2)
theorem formOf_le (dr:Nat→Int→Int):∀ (d k:Nat),(formOf dr d k).2+1≤k+2 ^ (d+1)
 | 0,k=>Nat.le_refl _
 | d+1,k=>by
  have h1:=formOf_le dr d (k+1)
  have h2:=formOf_le dr d (formOf dr d (k+1)).2
  have h3:2≤2 ^ (d+1):=by
   have:=Nat.one_le_two_pow (n:=d)
   rw [Nat.pow_succ];walk_at "o"
  have h4:2 ^ (d+1+1)=2 ^ (d+1)+2 ^ (d+1):=by rw [Nat.pow_succ 2 (d+1)];walk_at "o"
  rw [formOf]
  (repeat' split) <;> (dsimp only;walk_at "o")
theorem spot_at {i:Int} (h0:0≤i) (h5:i<5):spots[placeOf i spots.length]?=some (spotAt i.toNat):=by
 have:i=0∨i=1∨i=2∨i=3∨i=4:=by walk_at "o"
 rcases this with rfl | rfl | rfl | rfl | rfl <;> rfl
noncomputable def opName (w:Int):Str:=if w=0 then "or" else if w=3 then "iff" else if w=4 then "xor" else "and"
theorem op_at {w:Int} (h0:0≤w) (h6:w<6) (h1:w≠1):([PyData.str "or",.str "",.str "and",.str "iff",.str "xor",.str "and"])[placeOf w 6]?=some (.str (opName w)):=by
 have:w=0∨w=2∨w=3∨w=4∨w=5:=by walk_at "o"
 rcases this with rfl | rfl | rfl | rfl | rfl <;> rfl
theorem mkF_data {w:Int} {f g:Fm}:(mkF w f g).data=.tuple [.str (opName w),f.data,g.data]:=by
 unfold mkF opName
 (repeat' split) <;> rfl
noncomputable abbrev drw (cells:List Int) (b:Int):Nat→Int→Int:=fun k m=>drawOf cells k b m
theorem c_formula (hK:(KZ B.w.params).In B.h₁) {F:Addr} {cells:List Int} {b:Int} (fd:Feed R F cells b):∀ (d:Nat) {k:Nat} (hk:k+2 ^ (d+1)<1000),
  FS (B.sys R lo) (d+2) 870 [.v (.ref F),.d (.int (d:Int))] (fw σ F cells b k) (.d (formOf (drw cells b) d k).1.data) (fw σ F cells b (formOf (drw cells b) d k).2):=by
 intro d
 induction d with
 | zero=>
  intro k hk
  refine fs_def (names:=["feed","deep"]) hK ?h
  case h=>
   intro env f
   change Ex _ _ _ [("feed",_),("deep",_)] _ _ _
   show Ex _ _ _ _ _ _ (.ret (.d (.tuple [.str "atom",spotAt (drawOf cells k b 5).toNat])) (fw σ F cells b (k+1)))
   walk_at "2"
   ·with_reducible apply ex_assign
    walk_at "f";walk_at "d"
    ·with_reducible apply ev_ite (b:=false)
     walk_at "5";walk_at "4";walk_at "n";exact ev_int;walk_at "c";(with_unfolding_all rfl);decide;intro h;cases h
     intro _
     exact ev_int
    walk_at "u";rfl
   walk_at "6";(with_reducible apply ex_if (b:=true));walk_at "5";walk_at "4";walk_at "n";exact ev_int;walk_at "c";(with_unfolding_all rfl);decide
   ·intro _
    walk_at "6";(with_reducible apply ex_ret;apply ev_tuple);walk_at "3";exact ev_str;walk_at "3";(with_reducible apply ev_sub;apply ev_call);walk_at "g";exact evs_nil;exact c_spots hK;walk_at "k";exact hK _ _ (by k_is);rfl;rfl;(with_reducible apply ev_call);walk_at "g";walk_at "1";walk_at "n";walk_at "1";exact ev_int;exact evs_nil;rfl;rfl;exact c_drawP hK fd (by walk_at "o") (by decide);walk_at "k";exact hK _ _ (by k_is);rfl;rfl;exact sub_list (by have:=draw_lo (cells:=cells) (k:=k) (b:=b) (many:=5) (by decide);simp;walk_at "o") (by have:=draw_lo (cells:=cells) (k:=k) (b:=b) (many:=5) (by decide);walk_at "o") (by have:=draw_hi (cells:=cells) (k:=k) (b:=b) (many:=5) (by decide);walk_at "o") (spot_at (draw_lo (by decide)) (draw_hi (by decide)));exact evd_nil;rfl;rfl;rfl
   intro h;cases h
 | succ d ih=>
  intro k hk
  have h4:2 ^ (d+1+1)=2 ^ (d+1)+2 ^ (d+1):=by rw [Nat.pow_succ 2 (d+1)];walk_at "o"
  have h3:2≤2 ^ (d+1):=by
   have:=Nat.one_le_two_pow (n:=d)
   rw [Nat.pow_succ];walk_at "o"
  have l1:=formOf_le (drw cells b) d (k+1)
  have w0:=draw_lo (cells:=cells) (k:=k) (b:=b) (many:=8) (by decide)
  have w8:=draw_hi (cells:=cells) (k:=k) (b:=b) (many:=8) (by decide)
  have hbin:Bin (B.sys R lo) .Sub (.d (.int ((d+1:Nat):Int))) (.d (.int 1)) (.d (.int (d:Int))):=by
   have hn:((d+1:Nat):Int) - 1=(d:Int):=by walk_at "o"
   have:=bin_sub (S:=B.sys R lo) (a:=((d+1:Nat):Int)) (b:=1)
   rwa [hn] at this
  refine fs_def (names:=["feed","deep"]) hK ?h
  case h=>
   intro env f
   change Ex _ _ _ [("feed",_),("deep",_)] _ _ _
   by_cases h7:drawOf cells k b 8=7
   ·rw [show formOf (drw cells b) (d+1) k=(.atom (drawOf cells (k+1) b 5).toNat,k+2) from if_pos h7]
    show Ex _ _ _ _ _ _ (.ret (.d (.tuple [.str "atom",spotAt (drawOf cells (k+1) b 5).toNat])) (fw σ F cells b (k+1+1)))
    walk_at "2"
    ·with_reducible apply ex_assign
     walk_at "f";walk_at "d"
     ·with_reducible apply ev_ite (b:=true)
      walk_at "5";walk_at "4";walk_at "n";exact ev_int;walk_at "c";(with_unfolding_all rfl);walk_at "t"
      ·intro _
       (with_reducible apply ev_call);walk_at "g";walk_at "1";walk_at "n";walk_at "1";exact ev_int;exact evs_nil;rfl;rfl;exact c_drawP hK fd (by walk_at "o") (by decide);walk_at "k";exact hK _ _ (by k_is);rfl;rfl
      intro h;cases h
     walk_at "u";rfl
    walk_at "6";(with_reducible apply ex_if (b:=true))
    ·walk_at "5"
     walk_at "4";walk_at "n";exact ev_int;walk_at "c";(with_unfolding_all rfl)
     simp [h7]
    ·intro _
     walk_at "6";(with_reducible apply ex_ret;apply ev_tuple);walk_at "3";exact ev_str;walk_at "3";(with_reducible apply ev_sub;apply ev_call);walk_at "g";exact evs_nil;exact c_spots hK;walk_at "k";exact hK _ _ (by k_is);rfl;rfl;(with_reducible apply ev_call);walk_at "g";walk_at "1";walk_at "n";walk_at "1";exact ev_int;exact evs_nil;rfl;rfl;exact c_drawP hK fd (by walk_at "o") (by decide);walk_at "k";exact hK _ _ (by k_is);rfl;rfl;exact sub_list (by have:=draw_lo (cells:=cells) (k:=k+1) (b:=b) (many:=5) (by decide);simp;walk_at "o") (by have:=draw_lo (cells:=cells) (k:=k+1) (b:=b) (many:=5) (by decide);walk_at "o") (by have:=draw_hi (cells:=cells) (k:=k+1) (b:=b) (many:=5) (by decide);walk_at "o") (spot_at (draw_lo (by decide)) (draw_hi (by decide)));exact evd_nil;rfl;rfl;rfl
    intro h;cases h
   by_cases h6:drawOf cells k b 8=6
   ·have t0:=draw_lo (cells:=cells) (k:=k+1) (b:=b) (many:=2) (by decide)
    have t2:=draw_hi (cells:=cells) (k:=k+1) (b:=b) (many:=2) (by decide)
    rw [show formOf (drw cells b) (d+1) k=(if drawOf cells (k+1) b 2=0 then .tt else .ff,k+2) from (if_neg h7).trans (if_pos h6)]
    by_cases h2:drawOf cells (k+1) b 2=0
    ·rw [if_pos h2]
     show Ex _ _ _ _ _ _ (.ret (.d (.tuple [.str "true"])) (fw σ F cells b (k+1+1)))
     walk_at "2"
     ·with_reducible apply ex_assign
      walk_at "f";walk_at "d"
      ·with_reducible apply ev_ite (b:=true)
       walk_at "5";walk_at "4";walk_at "n";exact ev_int;walk_at "c";(with_unfolding_all rfl);walk_at "t"
       ·intro _
        (with_reducible apply ev_call);walk_at "g";walk_at "1";walk_at "n";walk_at "1";exact ev_int;exact evs_nil;rfl;rfl;exact c_drawP hK fd (by walk_at "o") (by decide);walk_at "k";exact hK _ _ (by k_is);rfl;rfl
       intro h;cases h
      walk_at "u";rfl
     walk_at "2"
     ·with_reducible apply ex_if (b:=false)
      ·walk_at "5"
       walk_at "4";walk_at "n";exact ev_int;walk_at "c";(with_unfolding_all rfl)
       simp [h7]
      intro h;cases h
      intro _
      exact ex_nil
     walk_at "6";(with_reducible apply ex_if (b:=true))
     ·walk_at "5"
      walk_at "4";walk_at "n";exact ev_int;walk_at "c";(with_unfolding_all rfl)
      simp [h6]
     ·intro _
      walk_at "6";(with_reducible apply ex_ret;apply ev_tuple)
      ·walk_at "3"
       ·with_reducible apply ev_sub
        (with_reducible apply ev_list);walk_at "3";exact ev_str;walk_at "3";exact ev_str;exact evd_nil;rfl;rfl;rfl;(with_reducible apply ev_call);walk_at "g";walk_at "1";walk_at "n";walk_at "1";exact ev_int;exact evs_nil;rfl;rfl;exact c_drawP hK fd (by walk_at "o") (by decide);walk_at "k";exact hK _ _ (by k_is);rfl;rfl
        refine sub_list (x:=.str "true") (by simp;walk_at "o") (by walk_at "o") (by walk_at "o") ?_;first | (rw [h2];rfl)
       exact evd_nil;rfl
      rfl
     intro h;cases h
    rw [if_neg h2]
    have h2:drawOf cells (k+1) b 2=1:=by walk_at "o"
    show Ex _ _ _ _ _ _ (.ret (.d (.tuple [.str "false"])) (fw σ F cells b (k+1+1)))
    walk_at "2"
    ·with_reducible apply ex_assign
     walk_at "f";walk_at "d"
     ·with_reducible apply ev_ite (b:=true)
      walk_at "5";walk_at "4";walk_at "n";exact ev_int;walk_at "c";(with_unfolding_all rfl);walk_at "t"
      ·intro _
       (with_reducible apply ev_call);walk_at "g";walk_at "1";walk_at "n";walk_at "1";exact ev_int;exact evs_nil;rfl;rfl;exact c_drawP hK fd (by walk_at "o") (by decide);walk_at "k";exact hK _ _ (by k_is);rfl;rfl
      intro h;cases h
     walk_at "u";rfl
    walk_at "2"
    ·with_reducible apply ex_if (b:=false)
     ·walk_at "5"
      walk_at "4";walk_at "n";exact ev_int;walk_at "c";(with_unfolding_all rfl)
      simp [h7]
     intro h;cases h
     intro _
     exact ex_nil
    walk_at "6";(with_reducible apply ex_if (b:=true))
    ·walk_at "5"
     walk_at "4";walk_at "n";exact ev_int;walk_at "c";(with_unfolding_all rfl)
     simp [h6]
    ·intro _
     walk_at "6";(with_reducible apply ex_ret;apply ev_tuple)
     ·walk_at "3"
      ·with_reducible apply ev_sub
       (with_reducible apply ev_list);walk_at "3";exact ev_str;walk_at "3";exact ev_str;exact evd_nil;rfl;rfl;rfl;(with_reducible apply ev_call);walk_at "g";walk_at "1";walk_at "n";walk_at "1";exact ev_int;exact evs_nil;rfl;rfl;exact c_drawP hK fd (by walk_at "o") (by decide);walk_at "k";exact hK _ _ (by k_is);rfl;rfl
       refine sub_list (x:=.str "false") (by simp;walk_at "o") (by walk_at "o") (by walk_at "o") ?_;first | (rw [h2];rfl)
      exact evd_nil;rfl
     rfl
    intro h;cases h
   by_cases h1:drawOf cells k b 8=1
   ·rw [show formOf (drw cells b) (d+1) k=(.not (formOf (drw cells b) d (k+1)).1,(formOf (drw cells b) d (k+1)).2) from (if_neg h7).trans ((if_neg h6).trans (if_pos h1))]
    show Ex _ _ _ _ _ _ (.ret (.d (.tuple [.str "not",(formOf (drw cells b) d (k+1)).1.data])) (fw σ F cells b (formOf (drw cells b) d (k+1)).2))
    walk_at "2"
    ·with_reducible apply ex_assign
     walk_at "f";walk_at "d"
     ·with_reducible apply ev_ite (b:=true)
      walk_at "5";walk_at "4";walk_at "n";exact ev_int;walk_at "c";(with_unfolding_all rfl);walk_at "t"
      ·intro _
       (with_reducible apply ev_call);walk_at "g";walk_at "1";walk_at "n";walk_at "1";exact ev_int;exact evs_nil;rfl;rfl;exact c_drawP hK fd (by walk_at "o") (by decide);walk_at "k";exact hK _ _ (by k_is);rfl;rfl
      intro h;cases h
     walk_at "u";rfl
    walk_at "2"
    ·with_reducible apply ex_if (b:=false)
     ·walk_at "5"
      walk_at "4";walk_at "n";exact ev_int;walk_at "c";(with_unfolding_all rfl)
      simp [h7]
     intro h;cases h
     intro _
     exact ex_nil
    walk_at "2"
    ·with_reducible apply ex_if (b:=false)
     ·walk_at "5"
      walk_at "4";walk_at "n";exact ev_int;walk_at "c";(with_unfolding_all rfl)
      simp [h6]
     intro h;cases h
     intro _
     exact ex_nil
    walk_at "2";(with_reducible apply ex_assign);walk_at "f";walk_at "d";(with_reducible apply ev_call);walk_at "g";walk_at "1";walk_at "n";walk_at "1";(with_reducible apply ev_bin);walk_at "n";exact ev_int;exact hbin;exact evs_nil;rfl;rfl;exact ih (by walk_at "o");walk_at "k";exact hK _ _ (by k_is);rfl;rfl;walk_at "u";rfl;walk_at "6";(with_reducible apply ex_if (b:=true))
    ·walk_at "5"
     walk_at "4";walk_at "n";exact ev_int;walk_at "c";(with_unfolding_all rfl)
     simp [h1]
    ·intro _
     walk_at "6";(with_reducible apply ex_ret;apply ev_tuple);walk_at "3";exact ev_str;walk_at "3";walk_at "n";exact evd_nil;rfl;rfl;rfl
    intro h;cases h
   rw [show formOf (drw cells b) (d+1) k=(mkF (drawOf cells k b 8) (formOf (drw cells b) d (k+1)).1 (formOf (drw cells b) d (formOf (drw cells b) d (k+1)).2).1,(formOf (drw cells b) d (formOf (drw cells b) d (k+1)).2).2) from (if_neg h7).trans ((if_neg h6).trans (if_neg h1))]
   dsimp only
   rw [mkF_data]
   walk_at "2"
   ·with_reducible apply ex_assign
    walk_at "f";walk_at "d"
    ·with_reducible apply ev_ite (b:=true)
     walk_at "5";walk_at "4";walk_at "n";exact ev_int;walk_at "c";(with_unfolding_all rfl);walk_at "t"
     ·intro _
      (with_reducible apply ev_call);walk_at "g";walk_at "1";walk_at "n";walk_at "1";exact ev_int;exact evs_nil;rfl;rfl;exact c_drawP hK fd (by walk_at "o") (by decide);walk_at "k";exact hK _ _ (by k_is);rfl;rfl
     intro h;cases h
    walk_at "u";rfl
   walk_at "2"
   ·with_reducible apply ex_if (b:=false)
    ·walk_at "5"
     walk_at "4";walk_at "n";exact ev_int;walk_at "c";(with_unfolding_all rfl)
     simp [h7]
    intro h;cases h
    intro _
    exact ex_nil
   walk_at "2"
   ·with_reducible apply ex_if (b:=false)
    ·walk_at "5"
     walk_at "4";walk_at "n";exact ev_int;walk_at "c";(with_unfolding_all rfl)
     simp [h6]
    intro h;cases h
    intro _
    exact ex_nil
   walk_at "2";(with_reducible apply ex_assign);walk_at "f";walk_at "d";(with_reducible apply ev_call);walk_at "g";walk_at "1";walk_at "n";walk_at "1";(with_reducible apply ev_bin);walk_at "n";exact ev_int;exact hbin;exact evs_nil;rfl;rfl;exact ih (by walk_at "o");walk_at "k";exact hK _ _ (by k_is);rfl;rfl;walk_at "u";rfl;walk_at "2"
   ·with_reducible apply ex_if (b:=false)
    ·walk_at "5"
     walk_at "4";walk_at "n";exact ev_int;walk_at "c";(with_unfolding_all rfl)
     simp [h1]
    intro h;cases h
    intro _
    exact ex_nil
   walk_at "6";(with_reducible apply ex_ret;apply ev_tuple);walk_at "3";(with_reducible apply ev_sub;apply ev_list);walk_at "3";exact ev_str;walk_at "3";exact ev_str;walk_at "3";exact ev_str;walk_at "3";exact ev_str;walk_at "3";exact ev_str;walk_at "3";exact ev_str;exact evd_nil;rfl;rfl;rfl;rfl;rfl;rfl;rfl;walk_at "n";exact sub_list (by simp;walk_at "o") (by walk_at "o") (by walk_at "o") (op_at w0 (by walk_at "o") h1);walk_at "3";walk_at "n";walk_at "3";(with_reducible apply ev_call);walk_at "g";walk_at "1";walk_at "n";walk_at "1";(with_reducible apply ev_bin);walk_at "n";exact ev_int;exact hbin;exact evs_nil;rfl;rfl;exact ih (by walk_at "o");walk_at "k";exact hK _ _ (by k_is);rfl;rfl;exact evd_nil;rfl;rfl;rfl;rfl
end
local macro_rules | `(tactic| walk_at "t")=>`(tactic| decide +kernel)
local macro_rules | `(tactic| walk_at "s")=>`(tactic| first | exact sub_tuple (by simp) (by decide) (by decide) rfl | exact sub_list (by simp) (by decide) (by decide) rfl)
local macro_rules | `(tactic| walk_at "ns")=>`(tactic| focus with_reducible repeat' (first | exact NamesAre.nil | apply NamesAre.cons))
theorem bindsA_nil {env:Env}:∀ x∈([]:List Str),Binds env x:=fun _u h=>by simp at h
theorem bindsA_cons {env:Env} {x:Str} {xs:List Str} (h:Binds env x) (hs:∀ y∈xs,Binds env y):∀ y∈x::xs,Binds env y:=fun y hy=>by
 rcases List.mem_cons.mp hy with rfl | hy
 exact h;exact hs y hy
local macro_rules | `(tactic| walk_at "da")=>`(tactic| focus repeat' (first | exact bindsA_nil | ((with_reducible apply bindsA_cons);walk_at "d")))
theorem updA2 {x y:Str} {a b:PyData} {ρ:List (Str × AV)} (h:(ρ.all fun p=>p.1 != x&&p.1 != y)=true):UpdA [x,y] ([a,b].map AV.d) ρ ((x,.d a)::(y,.d b)::ρ):=fun p hp=>by
 rcases List.mem_cons.mp hp with rfl | hp
 exact .inl ⟨0,rfl,rfl⟩
 rcases List.mem_cons.mp hp with rfl | hp
 exact .inl ⟨1,rfl,rfl⟩
 have:=List.all_eq_true.mp h p hp
 simp at this
 exact .inr ⟨hp,by simp [this]⟩
theorem updA3 {x y z:Str} {a b c:PyData} {ρ:List (Str × AV)} (h:(ρ.all fun p=>p.1 != x&&(p.1 != y&&p.1 != z))=true):UpdA [x,y,z] ([a,b,c].map AV.d) ρ ((x,.d a)::(y,.d b)::(z,.d c)::ρ):=fun p hp=>by
 rcases List.mem_cons.mp hp with rfl | hp
 exact .inl ⟨0,rfl,rfl⟩
 rcases List.mem_cons.mp hp with rfl | hp
 exact .inl ⟨1,rfl,rfl⟩
 rcases List.mem_cons.mp hp with rfl | hp
 exact .inl ⟨2,rfl,rfl⟩
 have:=List.all_eq_true.mp h p hp
 simp at this
 exact .inr ⟨hp,by simp [this]⟩
local macro_rules | `(tactic| walk_at "ua")=>`(tactic| first | exact updA2 rfl | exact updA3 rfl)
local macro_rules | `(tactic| walk_at "w")=>`(tactic| first | exact .inl rfl | exact .inr rfl | (left;with_unfolding_all rfl) | (right;with_unfolding_all rfl))
theorem shaped_str {a:Str} (h:PyData.strOk a=true):SeqAt.shaped (.str a)=true:=by
 unfold SeqAt.shaped
 rw [show (PyData.str a).canLay0=PyData.strOk a by simp [PyData.canLay0],h]
 simp [PyData.depth]
theorem cmp_str_eq {S:Sys} {a b:Str} (ha:PyData.strOk a=true) (hb:PyData.strOk b=true):Cmp S .Eq (.d (.str a)) (.d (.str b)) (.d (.bool (a == b))):=by
 have:=cmp_data_eq (S:=S) (shaped_str ha) (shaped_str hb)
 simpa [PyData.eqv] using this
theorem cmp_str_ne {S:Sys} {a b:Str} (ha:PyData.strOk a=true) (hb:PyData.strOk b=true):Cmp S .NotEq (.d (.str a)) (.d (.str b)) (.d (.bool (!(a == b)))):=by
 have:=cmp_data_ne (S:=S) (shaped_str ha) (shaped_str hb)
 simpa [PyData.eqv] using this
theorem cmp_str_in2 {S:Sys} {a b c:Str} (ha:PyData.strOk a=true) (hb:PyData.strOk b=true) (hc:PyData.strOk c=true):Cmp S .In (.d (.str a)) (.d (.tuple [.str b,.str c])) (.d (.bool ((b == a)||(c == a)))):=by
 have:=cmp_in_tuple (S:=S) (d:=.str a) (xs:=[.str b,.str c]) (by simp [PyData.canLayAll0,PyData.canLay0,hb,hc]) (by simp [PyData.canLay0,ha]) (by simp [PyData.depth])
 simpa [PyData.eqv] using this
local macro_rules | `(tactic| walk_at "c")=>`(tactic| (with_reducible first | apply cmp_str_eq | apply cmp_str_ne | apply cmp_str_in2) <;> decide +kernel)
local macro_rules | `(tactic| walk_at "b")=>`(tactic| first
 | ((with_reducible first | apply bin_pow | apply bin_shl);walk_at "k";walk_at "k";walk_at "k")
 | ((with_reducible apply bin_shr);walk_at "k")
 | ((with_reducible apply bin_div);walk_at "k";exact PyProof.noPylong_small (by walk_at "k")))
theorem ct_filter {S:Sys} {n:Nat} {nm:List (Str × NameKind)} {x:Str} {elt:Expr} {ifs:List Expr} {ρ:List (Str × AV)} {σ:Sto} {α:Type} (it:α→PyData) (p:α→Bool) (g:α→PyData):∀ {rows:List α},
  (∀ r∈rows,(∀ env,Fn' env nm→Tst S n env ((x,.d (it r))::ρ) σ ifs (p r) σ)∧(p r=true→∀ env,Fn' env nm→Ev S n env ((x,.d (it r))::ρ) σ (eval elt env) (.d (g r)) σ)) →
  CT S n nm x elt ifs ρ (rows.map it) σ ((rows.filter p).map g) σ
 | [],_=>.nil
 | r::rows,h=>by
  obtain ⟨h1,h2⟩:=h r (.head _)
  have ih:=ct_filter it p g (rows:=rows) fun r hr=>h r (.tail _ hr)
  rw [List.map_cons]
  cases hp:p r with
  | true=>
   rw [List.filter_cons_of_pos (by rw [hp]),List.map_cons]
   exact .keep (hp▸h1) (h2 hp) ih
  | false=>
   rw [List.filter_cons_of_neg (by rw [hp];decide)]
   exact .drop (hp▸h1) ih
theorem ct_map {S:Sys} {n:Nat} {nm:List (Str × NameKind)} {x:Str} {elt:Expr} {ρ:List (Str × AV)} {σ:Sto} {α:Type} (it:α→PyData) (g:α→PyData):∀ {rows:List α},
  (∀ r∈rows,∀ env,Fn' env nm→Ev S n env ((x,.d (it r))::ρ) σ (eval elt env) (.d (g r)) σ)→CT S n nm x elt [] ρ (rows.map it) σ (rows.map g) σ
 | [],_=>.nil
 | r::rows,h=>.keep (fun _u _u=>tst_nil) (h r (.head _)) (ct_map it g fun r hr=>h r (.tail _ hr))
theorem ev_is {S:Sys} {n:Nat} {env:Env} {ρ:List (Str × AV)} {σ σ':Sto} {t:Sem Value} {a b:AV} (h:Ev S n env ρ σ t a σ') (e:a=b):Ev S n env ρ σ t b σ':=e▸h
theorem ev_is2 {S:Sys} {n:Nat} {env:Env} {ρ:List (Str × AV)} {σ σ' σ'':Sto} {t:Sem Value} {a b:AV} (h:Ev S n env ρ σ t a σ') (e:a=b) (e':σ'=σ''):Ev S n env ρ σ t b σ'':=e'▸e▸h
theorem ex_is {S:Sys} {n:Nat} {env:Env} {ρ:List (Str × AV)} {σ:Sto} {t:Sem Flow} {o o':Out Sto} (h:Ex S n env ρ σ t o) (e:o=o'):Ex S n env ρ σ t o':=e▸h
section
variable {B:Base} {R:Addr→Prop} {lo:∀ a,R a→B.h₁.get? a=none} {σ:Sto}
@[reducible] noncomputable def spotsU:List PyData:=[.int 2,.int 3,.int 4,bit0,bit1]
noncomputable def spotU (i:Nat):PyData:=(spotsU[i]?).getD .none
theorem spots_fgt:fgtAll spots=spotsU:=rfl
theorem five {i:Nat} (hi:i<5):i=0∨i=1∨i=2∨i=3∨i=4:=by walk_at "o"
theorem spot_idx {i:Nat} (hi:i<5):idxE spotsU (spotU i)=i:=by
 rcases five hi with rfl | rfl | rfl | rfl | rfl <;> decide +kernel
theorem spot_in {i:Nat} (hi:i<5):(spotsU.any fun y=>PyData.eqv y (spotU i))=true:=by
 rcases five hi with rfl | rfl | rfl | rfl | rfl <;> decide +kernel
theorem spot_can {i:Nat} (hi:i<5):(spotU i).canLay0=true:=by
 rcases five hi with rfl | rfl | rfl | rfl | rfl <;> decide +kernel
theorem spot_depth {i:Nat} (hi:i<5):(spotU i).depth≤60:=by
 rcases five hi with rfl | rfl | rfl | rfl | rfl <;> decide +kernel
theorem spot_pow {i:Nat} (hi:i<5):(0:Int)<2 ^ ((i:Nat):Int).toNat∧(2:Int) ^ ((i:Nat):Int).toNat≤16:=by
 rcases five hi with rfl | rfl | rfl | rfl | rfl <;> decide
theorem spots_can:PyData.canLayAll0 spotsU=true:=by decide +kernel
noncomputable def colNs (i:Nat):List Int:=(((List.range 32).filter fun r=>(((r:Nat):Int).fdiv (2 ^ ((i:Nat):Int).toNat)).fmod 2 == 1).map fun r=>(2:Int) ^ ((r:Nat):Int).toNat)
noncomputable def colOf (i:Nat):Int:=(colNs i).sum
theorem ev_spotsU {S:Sys} {n:Nat} {env:Env} {ρ:List (Str × AV)} {σ₁ σ₂:Sto} {t:Sem Value} (h:Ev S n env ρ σ₁ t (.d (.list spots)) σ₂):Ev S n env ρ σ₁ t (.d (.list spotsU)) σ₂:=by
 have:=ev_fgt h
 exact this
theorem c_column (hK:(KZ B.w.params).In B.h₁) {i:Nat} (hi:i<5):FS (B.sys R lo) 2 875 [.d (spotU i)] σ (.d (.int (colOf i))) σ:=by
 refine fs_def (names:=["spot"]) hK ?h_1
 case h_1=>
  intro env f
  change Ex _ _ _ [("spot",_)] _ _ _
  walk_at "6";(with_reducible apply ex_ret;apply ev_callb);((with_reducible apply ev_blt);assumption;walk_at "f";rfl;k_is;exact bb_sum;decide;decide)
  ·walk_at "1"
   ·with_reducible apply ev_is (b:=.d (.list ((colNs i).map .int)))
    ·with_reducible apply ev_new
     refine' evn_comp (ρc:=[("spot",.d (spotU i))]) (by walk_at "f") ?cf1 ?it1 (iter_range (n:=32) (by decide)) ?ct1 ?hz1 (fun _u=>rfl)
     case hz1=>first | (simp [upTo];done) | (simp [upTo];walk_at "o")
     case cf1=>
      refine ⟨fun p hp hq=>?_,by decide,by decide,rfl,rfl,fun p hp=>?_⟩
      exact f.cells _ (by revert p;decide)
      rw [List.mem_singleton.mp hp];exact ⟨List.mem_cons_self,rfl,rfl,by dsimp only;decide⟩
     case it1=>
      (with_reducible apply ev_callt);((with_reducible apply ev_blt);assumption;walk_at "f";rfl;k_is;exact bb_range;decide;decide);walk_at "1";exact ev_int;exact evs_nil;rfl;exact typ_range (k:=32);rfl;rfl
     case ct1=>
      rw [upTo]
      refine' ct_filter (fun i=>PyData.int (i:Nat)) (fun r=>(((r:Nat):Int).fdiv (2 ^ ((i:Nat):Int).toNat)).fmod 2 == 1) (fun r=>PyData.int (2 ^ ((r:Nat):Int).toNat)) fun r hr=>⟨fun env f=>?_,fun hp env f=>?_⟩
      all_goals have hr32:r<32:=List.mem_range.mp hr
      ·with_reducible apply tst_one
       have e2:(2:Int) ^ (((idxE spotsU (spotU i):Nat):Int)).toNat=2 ^ ((i:Nat):Int).toNat:=by rw [spot_idx hi]
       rw [← e2]
       have h16:(0:Int)<2 ^ (((idxE spotsU (spotU i):Nat):Int)).toNat∧(2:Int) ^ (((idxE spotsU (spotU i):Nat):Int)).toNat≤16:=by rw [spot_idx hi];exact spot_pow hi
       have i5:idxE spotsU (spotU i)<5:=by rw [spot_idx hi];exact hi
       walk_at "4";(with_reducible apply ev_bin;apply ev_bin);walk_at "n";(with_reducible apply ev_bin);exact ev_int;(with_reducible apply ev_methb;apply ev_spotsU;apply ev_call);walk_at "g";exact evs_nil;exact c_spots hK;walk_at "k";exact hK _ _ (by k_is);rfl;rfl;exact meth_data PySem.F.slot_list_index rfl;walk_at "1";walk_at "n";exact evs_nil;rfl;exact act_index spots_can (spot_can hi) (spot_depth hi) (by decide) (spot_in hi);rfl;rfl;rfl;walk_at "b";walk_at "b";exact ev_int;walk_at "b";exact ev_int;walk_at "c";(with_unfolding_all rfl)
      (with_reducible apply ev_bin);exact ev_int;walk_at "n";walk_at "b"
    rw [colNs,List.map_map];rfl
   exact evs_nil;rfl
  exact blt_sum;rfl;rfl
end
section
variable {B:Base} {R:Addr→Prop} {lo:∀ a,R a→B.h₁.get? a=none} {σ:Sto}
noncomputable def Fm.dataU:Fm→PyData
 | .atom i=>.tuple [.str "atom",spotU i]
 | .tt=>.tuple [.str "true"]
 | .ff=>.tuple [.str "false"]
 | .not f=>.tuple [.str "not",f.dataU]
 | .or f g=>.tuple [.str "or",f.dataU,g.dataU]
 | .and f g=>.tuple [.str "and",f.dataU,g.dataU]
 | .iff f g=>.tuple [.str "iff",f.dataU,g.dataU]
 | .xor f g=>.tuple [.str "xor",f.dataU,g.dataU]
theorem spot_fgt {i:Nat} (hi:i<5):fgt (spotAt i)=spotU i:=by
 rcases five hi with rfl | rfl | rfl | rfl | rfl <;> rfl
noncomputable def Fm.wf:Fm→Prop
 | .atom i=>i<5
 | .tt | .ff=>True
 | .not f=>f.wf
 | .or f g | .and f g | .iff f g | .xor f g=>f.wf∧g.wf
noncomputable def Fm.ht:Fm→Nat
 | .atom _ | .tt | .ff=>0
 | .not f=>f.ht+1
 | .or f g | .and f g | .iff f g | .xor f g=>max f.ht g.ht+1
theorem two_data {o:Str} {a b c d:PyData} (h:fgt a=c) (k:fgt b=d):fgt (.tuple [.str o,a,b])=.tuple [.str o,c,d]:=by subst h;subst k;rfl
theorem Fm.fgt_data:∀ {f:Fm},f.wf→fgt f.data=f.dataU
 | .atom i,h=>(congrArg (fun x=>PyData.tuple [.str "atom",x]) (spot_fgt h) :)
 | .tt,_=>rfl
 | .ff,_=>rfl
 | .not f,h=>(congrArg (fun x=>PyData.tuple [.str "not",x]) (Fm.fgt_data (f:=f) h) :)
 | .or f g,h=>two_data (Fm.fgt_data (f:=f) h.1) (Fm.fgt_data (f:=g) h.2)
 | .and f g,h=>two_data (Fm.fgt_data (f:=f) h.1) (Fm.fgt_data (f:=g) h.2)
 | .iff f g,h=>two_data (Fm.fgt_data (f:=f) h.1) (Fm.fgt_data (f:=g) h.2)
 | .xor f g,h=>two_data (Fm.fgt_data (f:=f) h.1) (Fm.fgt_data (f:=g) h.2)
noncomputable abbrev every:Int:=2 ^ (32:Int).toNat - 1
noncomputable def holdOf:Fm→Int
 | .atom i=>colOf i
 | .tt=>every
 | .ff=>0
 | .not f=>every - holdOf f
 | .or f g=>Builtin.bitOr (holdOf f) (holdOf g)
 | .and f g=>Builtin.bitAnd (holdOf f) (holdOf g)
 | .iff f g=>every - Builtin.bitXor (holdOf f) (holdOf g)
 | .xor f g=>Builtin.bitXor (holdOf f) (holdOf g)
noncomputable def Fm.met:Fm→List PyData
 | .atom i=>[spotAt i]
 | .tt | .ff=>[]
 | .not f=>f.met++[]
 | .or f g | .and f g | .iff f g | .xor f g=>f.met++(g.met++[])
theorem c_holding (hK:(KZ B.w.params).In B.h₁):∀ (f:Fm),f.wf→FS (B.sys R lo) (f.ht+3) 882 [.d f.dataU] σ (.d (.int (holdOf f))) σ:=by
 intro f
 induction f with
 | atom i=>
  intro hw
  show FS _ (0+3) _ [.d (.tuple [.str "atom",spotU i])] _ (.d (.int (colOf i))) _
  refine fs_def (names:=["formula"]) hK ?h_1
  case h_1=>
   intro env f
   change Ex _ _ _ [("formula",_)] _ _ _
   walk_at "2";(with_reducible apply ex_unpack);walk_at "f";walk_at "ns";decide;walk_at "da";(with_reducible apply ev_tuple);walk_at "3";(with_reducible apply ev_sub);walk_at "n";exact ev_int;walk_at "s";walk_at "3";(with_reducible apply ev_bin;apply ev_bin);exact ev_int;exact ev_int;walk_at "b";exact ev_int;walk_at "b";exact evd_nil;rfl;rfl;rfl;rfl;walk_at "w";walk_at "ua";rfl;walk_at "6";(with_reducible apply ex_if (b:=true));walk_at "5";walk_at "4";walk_at "n";exact ev_str;walk_at "c";(with_unfolding_all rfl);walk_at "t"
   ·intro _
    walk_at "6";(with_reducible apply ex_ret;apply ev_call);walk_at "g";walk_at "1";(with_reducible apply ev_sub);walk_at "n";exact ev_int;walk_at "s";exact evs_nil;rfl;exact c_column hK hw;walk_at "k";exact hK _ _ (by k_is);rfl;rfl
   intro h;cases h
 | tt=>
  intro hw
  show FS _ (0+3) _ [.d (.tuple [.str "true"])] _ (.d (.int (every))) _
  refine fs_def (names:=["formula"]) hK ?h_2
  case h_2=>
   intro env f
   change Ex _ _ _ [("formula",_)] _ _ _
   walk_at "2";(with_reducible apply ex_unpack);walk_at "f";walk_at "ns";decide;walk_at "da";(with_reducible apply ev_tuple);walk_at "3";(with_reducible apply ev_sub);walk_at "n";exact ev_int;walk_at "s";walk_at "3";(with_reducible apply ev_bin;apply ev_bin);exact ev_int;exact ev_int;walk_at "b";exact ev_int;walk_at "b";exact evd_nil;rfl;rfl;rfl;rfl;walk_at "w";walk_at "ua";rfl;walk_at "2"
   ·with_reducible apply ex_if (b:=false)
    walk_at "5";walk_at "4";walk_at "n";exact ev_str;walk_at "c";(with_unfolding_all rfl);walk_at "t";intro h;cases h
    intro _
    exact ex_nil
   walk_at "6";(with_reducible apply ex_if (b:=true));walk_at "5";walk_at "4";walk_at "n";(with_reducible apply ev_tuple);walk_at "3";exact ev_str;walk_at "3";exact ev_str;exact evd_nil;rfl;rfl;rfl;walk_at "c";(with_unfolding_all rfl);walk_at "t"
   ·intro _
    walk_at "6";(with_reducible apply ex_ret;apply ev_ite (b:=true));walk_at "5";walk_at "4";walk_at "n";exact ev_str;walk_at "c";(with_unfolding_all rfl);walk_at "t"
    ·intro _
     walk_at "n"
    intro h;cases h
   intro h;cases h
 | ff=>
  intro hw
  show FS _ (0+3) _ [.d (.tuple [.str "false"])] _ (.d (.int (0))) _
  refine fs_def (names:=["formula"]) hK ?h_3
  case h_3=>
   intro env f
   change Ex _ _ _ [("formula",_)] _ _ _
   walk_at "2";(with_reducible apply ex_unpack);walk_at "f";walk_at "ns";decide;walk_at "da";(with_reducible apply ev_tuple);walk_at "3";(with_reducible apply ev_sub);walk_at "n";exact ev_int;walk_at "s";walk_at "3";(with_reducible apply ev_bin;apply ev_bin);exact ev_int;exact ev_int;walk_at "b";exact ev_int;walk_at "b";exact evd_nil;rfl;rfl;rfl;rfl;walk_at "w";walk_at "ua";rfl;walk_at "2"
   ·with_reducible apply ex_if (b:=false)
    walk_at "5";walk_at "4";walk_at "n";exact ev_str;walk_at "c";(with_unfolding_all rfl);walk_at "t";intro h;cases h
    intro _
    exact ex_nil
   walk_at "6";(with_reducible apply ex_if (b:=true));walk_at "5";walk_at "4";walk_at "n";(with_reducible apply ev_tuple);walk_at "3";exact ev_str;walk_at "3";exact ev_str;exact evd_nil;rfl;rfl;rfl;walk_at "c";(with_unfolding_all rfl);walk_at "t"
   ·intro _
    walk_at "6";(with_reducible apply ex_ret;apply ev_ite (b:=false));walk_at "5";walk_at "4";walk_at "n";exact ev_str;walk_at "c";(with_unfolding_all rfl);walk_at "t";intro h;cases h
    intro _
    exact ev_int
   intro h;cases h
 | not f ih=>
  intro hw
  show FS _ (f.ht+1+3) _ [.d (.tuple [.str "not",f.dataU])] _ (.d (.int (every - holdOf f))) _
  refine fs_def (names:=["formula"]) hK ?h_4
  case h_4=>
   intro env f
   change Ex _ _ _ [("formula",_)] _ _ _
   walk_at "2";(with_reducible apply ex_unpack);walk_at "f";walk_at "ns";decide;walk_at "da";(with_reducible apply ev_tuple);walk_at "3";(with_reducible apply ev_sub);walk_at "n";exact ev_int;walk_at "s";walk_at "3";(with_reducible apply ev_bin;apply ev_bin);exact ev_int;exact ev_int;walk_at "b";exact ev_int;walk_at "b";exact evd_nil;rfl;rfl;rfl;rfl;walk_at "w";walk_at "ua";rfl;walk_at "2"
   ·with_reducible apply ex_if (b:=false)
    walk_at "5";walk_at "4";walk_at "n";exact ev_str;walk_at "c";(with_unfolding_all rfl);walk_at "t";intro h;cases h
    intro _
    exact ex_nil
   walk_at "2"
   ·with_reducible apply ex_if (b:=false)
    walk_at "5";walk_at "4";walk_at "n";(with_reducible apply ev_tuple);walk_at "3";exact ev_str;walk_at "3";exact ev_str;exact evd_nil;rfl;rfl;rfl;walk_at "c";(with_unfolding_all rfl);walk_at "t";intro h;cases h
    intro _
    exact ex_nil
   walk_at "2";(with_reducible apply ex_assign);walk_at "f";walk_at "d";(with_reducible apply ev_call);walk_at "g";walk_at "1";(with_reducible apply ev_sub);walk_at "n";exact ev_int;walk_at "s";exact evs_nil;rfl;exact ih hw;walk_at "k";exact hK _ _ (by k_is);rfl;rfl;walk_at "u";rfl;walk_at "6";(with_reducible apply ex_if (b:=true));walk_at "5";walk_at "4";walk_at "n";exact ev_str;walk_at "c";(with_unfolding_all rfl);walk_at "t"
   ·intro _
    walk_at "6";(with_reducible apply ex_ret;apply ev_bin);walk_at "n";walk_at "n";walk_at "b"
   intro h;cases h
 | or f g ih1 ih2=>
  intro hw
  show FS _ (max f.ht g.ht+1+3) _ [.d (.tuple [.str "or",f.dataU,g.dataU])] _ (.d (.int (Builtin.bitOr (holdOf f) (holdOf g)))) _
  refine fs_def (names:=["formula"]) hK ?h_5
  case h_5=>
   intro env f
   change Ex _ _ _ [("formula",_)] _ _ _
   walk_at "2";(with_reducible apply ex_unpack);walk_at "f";walk_at "ns";decide;walk_at "da";(with_reducible apply ev_tuple);walk_at "3";(with_reducible apply ev_sub);walk_at "n";exact ev_int;walk_at "s";walk_at "3";(with_reducible apply ev_bin;apply ev_bin);exact ev_int;exact ev_int;walk_at "b";exact ev_int;walk_at "b";exact evd_nil;rfl;rfl;rfl;rfl;walk_at "w";walk_at "ua";rfl;walk_at "2"
   ·with_reducible apply ex_if (b:=false)
    walk_at "5";walk_at "4";walk_at "n";exact ev_str;walk_at "c";(with_unfolding_all rfl);walk_at "t";intro h;cases h
    intro _
    exact ex_nil
   walk_at "2"
   ·with_reducible apply ex_if (b:=false)
    walk_at "5";walk_at "4";walk_at "n";(with_reducible apply ev_tuple);walk_at "3";exact ev_str;walk_at "3";exact ev_str;exact evd_nil;rfl;rfl;rfl;walk_at "c";(with_unfolding_all rfl);walk_at "t";intro h;cases h
    intro _
    exact ex_nil
   walk_at "2";(with_reducible apply ex_assign);walk_at "f";walk_at "d";(with_reducible apply ev_call);walk_at "g";walk_at "1";(with_reducible apply ev_sub);walk_at "n";exact ev_int;walk_at "s";exact evs_nil;rfl;exact ih1 hw.1;walk_at "k";exact hK _ _ (by k_is);rfl;rfl;walk_at "u";rfl;walk_at "2"
   ·with_reducible apply ex_if (b:=false)
    walk_at "5";walk_at "4";walk_at "n";exact ev_str;walk_at "c";(with_unfolding_all rfl);walk_at "t";intro h;cases h
    intro _
    exact ex_nil
   walk_at "2";(with_reducible apply ex_assign);walk_at "f";walk_at "d";(with_reducible apply ev_call);walk_at "g";walk_at "1";(with_reducible apply ev_sub);walk_at "n";exact ev_int;walk_at "s";exact evs_nil;rfl;exact ih2 hw.2;walk_at "k";exact hK _ _ (by k_is);rfl;rfl;walk_at "u";rfl;walk_at "6";(with_reducible apply ex_if (b:=true));walk_at "5";walk_at "4";walk_at "n";(with_reducible apply ev_tuple);walk_at "3";exact ev_str;walk_at "3";exact ev_str;exact evd_nil;rfl;rfl;rfl;walk_at "c";(with_unfolding_all rfl);walk_at "t"
   ·intro _
    walk_at "6";(with_reducible apply ex_ret;apply ev_ite (b:=false));walk_at "5";walk_at "4";walk_at "n";exact ev_str;walk_at "c";(with_unfolding_all rfl);walk_at "t";intro h;cases h
    intro _
    (with_reducible apply ev_bin);walk_at "n";walk_at "n";walk_at "b"
   intro h;cases h
 | and f g ih1 ih2=>
  intro hw
  show FS _ (max f.ht g.ht+1+3) _ [.d (.tuple [.str "and",f.dataU,g.dataU])] _ (.d (.int (Builtin.bitAnd (holdOf f) (holdOf g)))) _
  refine fs_def (names:=["formula"]) hK ?h_6
  case h_6=>
   intro env f
   change Ex _ _ _ [("formula",_)] _ _ _
   walk_at "2";(with_reducible apply ex_unpack);walk_at "f";walk_at "ns";decide;walk_at "da";(with_reducible apply ev_tuple);walk_at "3";(with_reducible apply ev_sub);walk_at "n";exact ev_int;walk_at "s";walk_at "3";(with_reducible apply ev_bin;apply ev_bin);exact ev_int;exact ev_int;walk_at "b";exact ev_int;walk_at "b";exact evd_nil;rfl;rfl;rfl;rfl;walk_at "w";walk_at "ua";rfl;walk_at "2"
   ·with_reducible apply ex_if (b:=false)
    walk_at "5";walk_at "4";walk_at "n";exact ev_str;walk_at "c";(with_unfolding_all rfl);walk_at "t";intro h;cases h
    intro _
    exact ex_nil
   walk_at "2"
   ·with_reducible apply ex_if (b:=false)
    walk_at "5";walk_at "4";walk_at "n";(with_reducible apply ev_tuple);walk_at "3";exact ev_str;walk_at "3";exact ev_str;exact evd_nil;rfl;rfl;rfl;walk_at "c";(with_unfolding_all rfl);walk_at "t";intro h;cases h
    intro _
    exact ex_nil
   walk_at "2";(with_reducible apply ex_assign);walk_at "f";walk_at "d";(with_reducible apply ev_call);walk_at "g";walk_at "1";(with_reducible apply ev_sub);walk_at "n";exact ev_int;walk_at "s";exact evs_nil;rfl;exact ih1 hw.1;walk_at "k";exact hK _ _ (by k_is);rfl;rfl;walk_at "u";rfl;walk_at "2"
   ·with_reducible apply ex_if (b:=false)
    walk_at "5";walk_at "4";walk_at "n";exact ev_str;walk_at "c";(with_unfolding_all rfl);walk_at "t";intro h;cases h
    intro _
    exact ex_nil
   walk_at "2";(with_reducible apply ex_assign);walk_at "f";walk_at "d";(with_reducible apply ev_call);walk_at "g";walk_at "1";(with_reducible apply ev_sub);walk_at "n";exact ev_int;walk_at "s";exact evs_nil;rfl;exact ih2 hw.2;walk_at "k";exact hK _ _ (by k_is);rfl;rfl;walk_at "u";rfl;walk_at "6";(with_reducible apply ex_if (b:=true));walk_at "5";walk_at "4";walk_at "n";(with_reducible apply ev_tuple);walk_at "3";exact ev_str;walk_at "3";exact ev_str;exact evd_nil;rfl;rfl;rfl;walk_at "c";(with_unfolding_all rfl);walk_at "t"
   ·intro _
    walk_at "6";(with_reducible apply ex_ret;apply ev_ite (b:=true));walk_at "5";walk_at "4";walk_at "n";exact ev_str;walk_at "c";(with_unfolding_all rfl);walk_at "t"
    ·intro _
     (with_reducible apply ev_bin);walk_at "n";walk_at "n";walk_at "b"
    intro h;cases h
   intro h;cases h
 | iff f g ih1 ih2=>
  intro hw
  show FS _ (max f.ht g.ht+1+3) _ [.d (.tuple [.str "iff",f.dataU,g.dataU])] _ (.d (.int (every - Builtin.bitXor (holdOf f) (holdOf g)))) _
  refine fs_def (names:=["formula"]) hK ?h_7
  case h_7=>
   intro env f
   change Ex _ _ _ [("formula",_)] _ _ _
   walk_at "2";(with_reducible apply ex_unpack);walk_at "f";walk_at "ns";decide;walk_at "da";(with_reducible apply ev_tuple);walk_at "3";(with_reducible apply ev_sub);walk_at "n";exact ev_int;walk_at "s";walk_at "3";(with_reducible apply ev_bin;apply ev_bin);exact ev_int;exact ev_int;walk_at "b";exact ev_int;walk_at "b";exact evd_nil;rfl;rfl;rfl;rfl;walk_at "w";walk_at "ua";rfl;walk_at "2"
   ·with_reducible apply ex_if (b:=false)
    walk_at "5";walk_at "4";walk_at "n";exact ev_str;walk_at "c";(with_unfolding_all rfl);walk_at "t";intro h;cases h
    intro _
    exact ex_nil
   walk_at "2"
   ·with_reducible apply ex_if (b:=false)
    walk_at "5";walk_at "4";walk_at "n";(with_reducible apply ev_tuple);walk_at "3";exact ev_str;walk_at "3";exact ev_str;exact evd_nil;rfl;rfl;rfl;walk_at "c";(with_unfolding_all rfl);walk_at "t";intro h;cases h
    intro _
    exact ex_nil
   walk_at "2";(with_reducible apply ex_assign);walk_at "f";walk_at "d";(with_reducible apply ev_call);walk_at "g";walk_at "1";(with_reducible apply ev_sub);walk_at "n";exact ev_int;walk_at "s";exact evs_nil;rfl;exact ih1 hw.1;walk_at "k";exact hK _ _ (by k_is);rfl;rfl;walk_at "u";rfl;walk_at "2"
   ·with_reducible apply ex_if (b:=false)
    walk_at "5";walk_at "4";walk_at "n";exact ev_str;walk_at "c";(with_unfolding_all rfl);walk_at "t";intro h;cases h
    intro _
    exact ex_nil
   walk_at "2";(with_reducible apply ex_assign);walk_at "f";walk_at "d";(with_reducible apply ev_call);walk_at "g";walk_at "1";(with_reducible apply ev_sub);walk_at "n";exact ev_int;walk_at "s";exact evs_nil;rfl;exact ih2 hw.2;walk_at "k";exact hK _ _ (by k_is);rfl;rfl;walk_at "u";rfl;walk_at "2"
   ·with_reducible apply ex_if (b:=false)
    walk_at "5";walk_at "4";walk_at "n";(with_reducible apply ev_tuple);walk_at "3";exact ev_str;walk_at "3";exact ev_str;exact evd_nil;rfl;rfl;rfl;walk_at "c";(with_unfolding_all rfl);walk_at "t";intro h;cases h
    intro _
    exact ex_nil
   walk_at "6";(with_reducible apply ex_ret;apply ev_ite (b:=false));walk_at "5";walk_at "4";walk_at "n";exact ev_str;walk_at "c";(with_unfolding_all rfl);walk_at "t";intro h;cases h
   intro _
   (with_reducible apply ev_bin);walk_at "n";(with_reducible apply ev_bin);walk_at "n";walk_at "n";walk_at "b";walk_at "b"
 | xor f g ih1 ih2=>
  intro hw
  show FS _ (max f.ht g.ht+1+3) _ [.d (.tuple [.str "xor",f.dataU,g.dataU])] _ (.d (.int (Builtin.bitXor (holdOf f) (holdOf g)))) _
  refine fs_def (names:=["formula"]) hK ?h_8
  case h_8=>
   intro env f
   change Ex _ _ _ [("formula",_)] _ _ _
   walk_at "2";(with_reducible apply ex_unpack);walk_at "f";walk_at "ns";decide;walk_at "da";(with_reducible apply ev_tuple);walk_at "3";(with_reducible apply ev_sub);walk_at "n";exact ev_int;walk_at "s";walk_at "3";(with_reducible apply ev_bin;apply ev_bin);exact ev_int;exact ev_int;walk_at "b";exact ev_int;walk_at "b";exact evd_nil;rfl;rfl;rfl;rfl;walk_at "w";walk_at "ua";rfl;walk_at "2"
   ·with_reducible apply ex_if (b:=false)
    walk_at "5";walk_at "4";walk_at "n";exact ev_str;walk_at "c";(with_unfolding_all rfl);walk_at "t";intro h;cases h
    intro _
    exact ex_nil
   walk_at "2"
   ·with_reducible apply ex_if (b:=false)
    walk_at "5";walk_at "4";walk_at "n";(with_reducible apply ev_tuple);walk_at "3";exact ev_str;walk_at "3";exact ev_str;exact evd_nil;rfl;rfl;rfl;walk_at "c";(with_unfolding_all rfl);walk_at "t";intro h;cases h
    intro _
    exact ex_nil
   walk_at "2";(with_reducible apply ex_assign);walk_at "f";walk_at "d";(with_reducible apply ev_call);walk_at "g";walk_at "1";(with_reducible apply ev_sub);walk_at "n";exact ev_int;walk_at "s";exact evs_nil;rfl;exact ih1 hw.1;walk_at "k";exact hK _ _ (by k_is);rfl;rfl;walk_at "u";rfl;walk_at "2"
   ·with_reducible apply ex_if (b:=false)
    walk_at "5";walk_at "4";walk_at "n";exact ev_str;walk_at "c";(with_unfolding_all rfl);walk_at "t";intro h;cases h
    intro _
    exact ex_nil
   walk_at "2";(with_reducible apply ex_assign);walk_at "f";walk_at "d";(with_reducible apply ev_call);walk_at "g";walk_at "1";(with_reducible apply ev_sub);walk_at "n";exact ev_int;walk_at "s";exact evs_nil;rfl;exact ih2 hw.2;walk_at "k";exact hK _ _ (by k_is);rfl;rfl;walk_at "u";rfl;walk_at "2"
   ·with_reducible apply ex_if (b:=false)
    walk_at "5";walk_at "4";walk_at "n";(with_reducible apply ev_tuple);walk_at "3";exact ev_str;walk_at "3";exact ev_str;exact evd_nil;rfl;rfl;rfl;walk_at "c";(with_unfolding_all rfl);walk_at "t";intro h;cases h
    intro _
    exact ex_nil
   walk_at "6";(with_reducible apply ex_ret;apply ev_ite (b:=true));walk_at "5";walk_at "4";walk_at "n";exact ev_str;walk_at "c";(with_unfolding_all rfl);walk_at "t"
   ·intro _
    (with_reducible apply ev_bin);walk_at "n";walk_at "n";walk_at "b"
   intro h;cases h
theorem c_met (hK:(KZ B.w.params).In B.h₁):∀ (f:Fm),f.wf→f.ht≤5→f.met.length≤2 ^ f.ht∧FS (B.sys R lo) (f.ht+1) 887 [.d f.data] σ (.d (.list f.met)) σ:=by
 intro f
 induction f with
 | atom i=>
  intro hw hd5
  refine ⟨Nat.le_refl 1,?_⟩
  show FS _ (0+1) _ [.d (.tuple [.str "atom",spotAt i])] _ (.d (.list ([spotAt i]))) _
  refine fs_def (names:=["formula"]) hK ?h_9
  case h_9=>
   intro env f
   change Ex _ _ _ [("formula",_)] _ _ _
   walk_at "6";(with_reducible apply ex_if (b:=true));walk_at "5";walk_at "4";(with_reducible apply ev_sub);walk_at "n";exact ev_int;walk_at "s";exact ev_str;walk_at "c";(with_unfolding_all rfl);walk_at "t"
   ·intro _
    walk_at "6";(with_reducible apply ex_ret;apply ev_list);walk_at "3";(with_reducible apply ev_sub);walk_at "n";exact ev_int;walk_at "s";exact evd_nil;rfl;rfl
   intro h;cases h
 | tt=>
  intro hw hd5
  refine ⟨by decide,?_⟩
  show FS _ (0+1) _ [.d (.tuple [.str "true"])] _ (.d (.list ([]))) _
  refine fs_def (names:=["formula"]) hK ?h_10
  case h_10=>
   intro env f
   change Ex _ _ _ [("formula",_)] _ _ _
   walk_at "2"
   ·with_reducible apply ex_if (b:=false)
    walk_at "5";walk_at "4";(with_reducible apply ev_sub);walk_at "n";exact ev_int;walk_at "s";exact ev_str;walk_at "c";(with_unfolding_all rfl);walk_at "t";intro h;cases h
    intro _
    exact ex_nil
   walk_at "6";(with_reducible apply ex_ret;apply ev_new)
   refine' evn_comp2 (ρc:=[]) (by walk_at "f") ?cf1 ?it1 (iter_tuple) rfl (by decide) (fun p hp=>by simp at hp) ?ct1 ?hz1 ?hy1 (by decide) (fun _u _u=>rfl) (fun _u=>rfl)
   case cf1=>exact ⟨fun p hp hq=>by exfalso;revert p;decide,by decide,by decide,rfl,rfl,fun p hp=>by simp at hp⟩
   case it1=>
    (with_reducible apply ev_tail);walk_at "n";exact ev_int
    ·simp
    simp
   case ct1=>
    exact CT2.nil
   case hz1=>simp
   case hy1=>simp
 | ff=>
  intro hw hd5
  refine ⟨by decide,?_⟩
  show FS _ (0+1) _ [.d (.tuple [.str "false"])] _ (.d (.list ([]))) _
  refine fs_def (names:=["formula"]) hK ?h_11
  case h_11=>
   intro env f
   change Ex _ _ _ [("formula",_)] _ _ _
   walk_at "2"
   ·with_reducible apply ex_if (b:=false)
    walk_at "5";walk_at "4";(with_reducible apply ev_sub);walk_at "n";exact ev_int;walk_at "s";exact ev_str;walk_at "c";(with_unfolding_all rfl);walk_at "t";intro h;cases h
    intro _
    exact ex_nil
   walk_at "6";(with_reducible apply ex_ret;apply ev_new)
   refine' evn_comp2 (ρc:=[]) (by walk_at "f") ?cf2 ?it2 (iter_tuple) rfl (by decide) (fun p hp=>by simp at hp) ?ct2 ?hz2 ?hy2 (by decide) (fun _u _u=>rfl) (fun _u=>rfl)
   case cf2=>exact ⟨fun p hp hq=>by exfalso;revert p;decide,by decide,by decide,rfl,rfl,fun p hp=>by simp at hp⟩
   case it2=>
    (with_reducible apply ev_tail);walk_at "n";exact ev_int
    ·simp
    simp
   case ct2=>
    exact CT2.nil
   case hz2=>simp
   case hy2=>simp
 | not f ih=>
  intro hw hd5
  have hx:f.ht≤4:=by have:f.ht+1≤5:=hd5;walk_at "o"
  have ih:=ih hw (by walk_at "o")
  have p3:2 ^ (f.ht+1)=2 ^ f.ht+2 ^ f.ht:=by rw [Nat.pow_succ];walk_at "o"
  have p4:2 ^ (f.ht+1)≤2 ^ 5:=Nat.pow_le_pow_right (by decide) (by walk_at "o")
  refine ⟨by show (f.met++[]).length≤2 ^ (f.ht+1);have:=ih.1;simp;walk_at "o",?_⟩
  show FS _ (f.ht+1+1) _ [.d (.tuple [.str "not",f.data])] _ (.d (.list (f.met++[]))) _
  refine fs_def (names:=["formula"]) hK ?h_12
  case h_12=>
   intro env f
   change Ex _ _ _ [("formula",_)] _ _ _
   walk_at "2"
   ·with_reducible apply ex_if (b:=false)
    walk_at "5";walk_at "4";(with_reducible apply ev_sub);walk_at "n";exact ev_int;walk_at "s";exact ev_str;walk_at "c";(with_unfolding_all rfl);walk_at "t";intro h;cases h
    intro _
    exact ex_nil
   walk_at "6";(with_reducible apply ex_ret;apply ev_new)
   refine' evn_comp2 (ρc:=[]) (by walk_at "f") ?cf3 ?it3 (iter_tuple) rfl (by decide) (fun p hp=>by simp at hp) ?ct3 ?hz3 ?hy3 (by decide) (fun _u _u=>rfl) (fun _u=>rfl)
   case cf3=>exact ⟨fun p hp hq=>by exfalso;revert p;decide,by decide,by decide,rfl,rfl,fun p hp=>by simp at hp⟩
   case it3=>
    (with_reducible apply ev_tail);walk_at "n";exact ev_int
    ·simp
    simp
   case ct3=>
    refine' CT2.cons ?_ CT2.nil
    intro env f
    (with_reducible apply ev_call);walk_at "g";walk_at "1";walk_at "n";exact evs_nil;rfl;exact ih.2;walk_at "k";exact hK _ _ (by k_is);rfl;rfl
   case hz3=>simp
   case hy3=>have:=ih.1;simp;walk_at "o"
 | or f g ih1 ih2=>
  intro hw hd5
  have hx:f.ht≤4∧g.ht≤4:=by have:max f.ht g.ht+1≤5:=hd5;walk_at "o"
  have ih1:=ih1 hw.1 (by walk_at "o")
  have ih2:=ih2 hw.2 (by walk_at "o")
  have p1:2 ^ f.ht≤2 ^ (max f.ht g.ht):=Nat.pow_le_pow_right (by decide) (by walk_at "o")
  have p2:2 ^ g.ht≤2 ^ (max f.ht g.ht):=Nat.pow_le_pow_right (by decide) (by walk_at "o")
  have p3:2 ^ (max f.ht g.ht+1)=2 ^ (max f.ht g.ht)+2 ^ (max f.ht g.ht):=by rw [Nat.pow_succ];walk_at "o"
  have p4:2 ^ (max f.ht g.ht+1)≤2 ^ 5:=Nat.pow_le_pow_right (by decide) (by walk_at "o")
  refine ⟨by show (f.met++(g.met++[])).length≤2 ^ (max f.ht g.ht+1);have:=ih1.1;have:=ih2.1;simp;walk_at "o",?_⟩
  show FS _ (max f.ht g.ht+1+1) _ [.d (.tuple [.str "or",f.data,g.data])] _ (.d (.list (f.met++(g.met++[])))) _
  refine fs_def (names:=["formula"]) hK ?h_13
  case h_13=>
   intro env f
   change Ex _ _ _ [("formula",_)] _ _ _
   walk_at "2"
   ·with_reducible apply ex_if (b:=false)
    walk_at "5";walk_at "4";(with_reducible apply ev_sub);walk_at "n";exact ev_int;walk_at "s";exact ev_str;walk_at "c";(with_unfolding_all rfl);walk_at "t";intro h;cases h
    intro _
    exact ex_nil
   walk_at "6";(with_reducible apply ex_ret;apply ev_new)
   refine' evn_comp2 (ρc:=[]) (by walk_at "f") ?cf4 ?it4 (iter_tuple) rfl (by decide) (fun p hp=>by simp at hp) ?ct4 ?hz4 ?hy4 (by decide) (fun _u _u=>rfl) (fun _u=>rfl)
   case cf4=>exact ⟨fun p hp hq=>by exfalso;revert p;decide,by decide,by decide,rfl,rfl,fun p hp=>by simp at hp⟩
   case it4=>
    (with_reducible apply ev_tail);walk_at "n";exact ev_int
    ·simp
    simp
   case ct4=>
    refine' CT2.cons ?_ (CT2.cons ?_ CT2.nil)
    ·intro env f
     (with_reducible apply ev_call);walk_at "g";walk_at "1";walk_at "n";exact evs_nil;rfl;exact ih1.2;walk_at "k";exact hK _ _ (by k_is);rfl;rfl
    intro env f
    (with_reducible apply ev_call);walk_at "g";walk_at "1";walk_at "n";exact evs_nil;rfl;exact ih2.2;walk_at "k";exact hK _ _ (by k_is);rfl;rfl
   case hz4=>simp
   case hy4=>have:=ih1.1;have:=ih2.1;simp;walk_at "o"
 | and f g ih1 ih2=>
  intro hw hd5
  have hx:f.ht≤4∧g.ht≤4:=by have:max f.ht g.ht+1≤5:=hd5;walk_at "o"
  have ih1:=ih1 hw.1 (by walk_at "o")
  have ih2:=ih2 hw.2 (by walk_at "o")
  have p1:2 ^ f.ht≤2 ^ (max f.ht g.ht):=Nat.pow_le_pow_right (by decide) (by walk_at "o")
  have p2:2 ^ g.ht≤2 ^ (max f.ht g.ht):=Nat.pow_le_pow_right (by decide) (by walk_at "o")
  have p3:2 ^ (max f.ht g.ht+1)=2 ^ (max f.ht g.ht)+2 ^ (max f.ht g.ht):=by rw [Nat.pow_succ];walk_at "o"
  have p4:2 ^ (max f.ht g.ht+1)≤2 ^ 5:=Nat.pow_le_pow_right (by decide) (by walk_at "o")
  refine ⟨by show (f.met++(g.met++[])).length≤2 ^ (max f.ht g.ht+1);have:=ih1.1;have:=ih2.1;simp;walk_at "o",?_⟩
  show FS _ (max f.ht g.ht+1+1) _ [.d (.tuple [.str "and",f.data,g.data])] _ (.d (.list (f.met++(g.met++[])))) _
  refine fs_def (names:=["formula"]) hK ?h_14
  case h_14=>
   intro env f
   change Ex _ _ _ [("formula",_)] _ _ _
   walk_at "2"
   ·with_reducible apply ex_if (b:=false)
    walk_at "5";walk_at "4";(with_reducible apply ev_sub);walk_at "n";exact ev_int;walk_at "s";exact ev_str;walk_at "c";(with_unfolding_all rfl);walk_at "t";intro h;cases h
    intro _
    exact ex_nil
   walk_at "6";(with_reducible apply ex_ret;apply ev_new)
   refine' evn_comp2 (ρc:=[]) (by walk_at "f") ?cf5 ?it5 (iter_tuple) rfl (by decide) (fun p hp=>by simp at hp) ?ct5 ?hz5 ?hy5 (by decide) (fun _u _u=>rfl) (fun _u=>rfl)
   case cf5=>exact ⟨fun p hp hq=>by exfalso;revert p;decide,by decide,by decide,rfl,rfl,fun p hp=>by simp at hp⟩
   case it5=>
    (with_reducible apply ev_tail);walk_at "n";exact ev_int
    ·simp
    simp
   case ct5=>
    refine' CT2.cons ?_ (CT2.cons ?_ CT2.nil)
    ·intro env f
     (with_reducible apply ev_call);walk_at "g";walk_at "1";walk_at "n";exact evs_nil;rfl;exact ih1.2;walk_at "k";exact hK _ _ (by k_is);rfl;rfl
    intro env f
    (with_reducible apply ev_call);walk_at "g";walk_at "1";walk_at "n";exact evs_nil;rfl;exact ih2.2;walk_at "k";exact hK _ _ (by k_is);rfl;rfl
   case hz5=>simp
   case hy5=>have:=ih1.1;have:=ih2.1;simp;walk_at "o"
 | iff f g ih1 ih2=>
  intro hw hd5
  have hx:f.ht≤4∧g.ht≤4:=by have:max f.ht g.ht+1≤5:=hd5;walk_at "o"
  have ih1:=ih1 hw.1 (by walk_at "o")
  have ih2:=ih2 hw.2 (by walk_at "o")
  have p1:2 ^ f.ht≤2 ^ (max f.ht g.ht):=Nat.pow_le_pow_right (by decide) (by walk_at "o")
  have p2:2 ^ g.ht≤2 ^ (max f.ht g.ht):=Nat.pow_le_pow_right (by decide) (by walk_at "o")
  have p3:2 ^ (max f.ht g.ht+1)=2 ^ (max f.ht g.ht)+2 ^ (max f.ht g.ht):=by rw [Nat.pow_succ];walk_at "o"
  have p4:2 ^ (max f.ht g.ht+1)≤2 ^ 5:=Nat.pow_le_pow_right (by decide) (by walk_at "o")
  refine ⟨by show (f.met++(g.met++[])).length≤2 ^ (max f.ht g.ht+1);have:=ih1.1;have:=ih2.1;simp;walk_at "o",?_⟩
  show FS _ (max f.ht g.ht+1+1) _ [.d (.tuple [.str "iff",f.data,g.data])] _ (.d (.list (f.met++(g.met++[])))) _
  refine fs_def (names:=["formula"]) hK ?h_15
  case h_15=>
   intro env f
   change Ex _ _ _ [("formula",_)] _ _ _
   walk_at "2"
   ·with_reducible apply ex_if (b:=false)
    walk_at "5";walk_at "4";(with_reducible apply ev_sub);walk_at "n";exact ev_int;walk_at "s";exact ev_str;walk_at "c";(with_unfolding_all rfl);walk_at "t";intro h;cases h
    intro _
    exact ex_nil
   walk_at "6";(with_reducible apply ex_ret;apply ev_new)
   refine' evn_comp2 (ρc:=[]) (by walk_at "f") ?cf6 ?it6 (iter_tuple) rfl (by decide) (fun p hp=>by simp at hp) ?ct6 ?hz6 ?hy6 (by decide) (fun _u _u=>rfl) (fun _u=>rfl)
   case cf6=>exact ⟨fun p hp hq=>by exfalso;revert p;decide,by decide,by decide,rfl,rfl,fun p hp=>by simp at hp⟩
   case it6=>
    (with_reducible apply ev_tail);walk_at "n";exact ev_int
    ·simp
    simp
   case ct6=>
    refine' CT2.cons ?_ (CT2.cons ?_ CT2.nil)
    ·intro env f
     (with_reducible apply ev_call);walk_at "g";walk_at "1";walk_at "n";exact evs_nil;rfl;exact ih1.2;walk_at "k";exact hK _ _ (by k_is);rfl;rfl
    intro env f
    (with_reducible apply ev_call);walk_at "g";walk_at "1";walk_at "n";exact evs_nil;rfl;exact ih2.2;walk_at "k";exact hK _ _ (by k_is);rfl;rfl
   case hz6=>simp
   case hy6=>have:=ih1.1;have:=ih2.1;simp;walk_at "o"
 | xor f g ih1 ih2=>
  intro hw hd5
  have hx:f.ht≤4∧g.ht≤4:=by have:max f.ht g.ht+1≤5:=hd5;walk_at "o"
  have ih1:=ih1 hw.1 (by walk_at "o")
  have ih2:=ih2 hw.2 (by walk_at "o")
  have p1:2 ^ f.ht≤2 ^ (max f.ht g.ht):=Nat.pow_le_pow_right (by decide) (by walk_at "o")
  have p2:2 ^ g.ht≤2 ^ (max f.ht g.ht):=Nat.pow_le_pow_right (by decide) (by walk_at "o")
  have p3:2 ^ (max f.ht g.ht+1)=2 ^ (max f.ht g.ht)+2 ^ (max f.ht g.ht):=by rw [Nat.pow_succ];walk_at "o"
  have p4:2 ^ (max f.ht g.ht+1)≤2 ^ 5:=Nat.pow_le_pow_right (by decide) (by walk_at "o")
  refine ⟨by show (f.met++(g.met++[])).length≤2 ^ (max f.ht g.ht+1);have:=ih1.1;have:=ih2.1;simp;walk_at "o",?_⟩
  show FS _ (max f.ht g.ht+1+1) _ [.d (.tuple [.str "xor",f.data,g.data])] _ (.d (.list (f.met++(g.met++[])))) _
  refine fs_def (names:=["formula"]) hK ?h_16
  case h_16=>
   intro env f
   change Ex _ _ _ [("formula",_)] _ _ _
   walk_at "2"
   ·with_reducible apply ex_if (b:=false)
    walk_at "5";walk_at "4";(with_reducible apply ev_sub);walk_at "n";exact ev_int;walk_at "s";exact ev_str;walk_at "c";(with_unfolding_all rfl);walk_at "t";intro h;cases h
    intro _
    exact ex_nil
   walk_at "6";(with_reducible apply ex_ret;apply ev_new)
   refine' evn_comp2 (ρc:=[]) (by walk_at "f") ?cf7 ?it7 (iter_tuple) rfl (by decide) (fun p hp=>by simp at hp) ?ct7 ?hz7 ?hy7 (by decide) (fun _u _u=>rfl) (fun _u=>rfl)
   case cf7=>exact ⟨fun p hp hq=>by exfalso;revert p;decide,by decide,by decide,rfl,rfl,fun p hp=>by simp at hp⟩
   case it7=>
    (with_reducible apply ev_tail);walk_at "n";exact ev_int
    ·simp
    simp
   case ct7=>
    refine' CT2.cons ?_ (CT2.cons ?_ CT2.nil)
    ·intro env f
     (with_reducible apply ev_call);walk_at "g";walk_at "1";walk_at "n";exact evs_nil;rfl;exact ih1.2;walk_at "k";exact hK _ _ (by k_is);rfl;rfl
    intro env f
    (with_reducible apply ev_call);walk_at "g";walk_at "1";walk_at "n";exact evs_nil;rfl;exact ih2.2;walk_at "k";exact hK _ _ (by k_is);rfl;rfl
   case hz7=>simp
   case hy7=>have:=ih1.1;have:=ih2.1;simp;walk_at "o"
end
section rules
variable {S:Sys} {n:Nat} {env:Env} {ρ ρ₁ ρ₂:List (Str × AV)} {σ σ₁ σ₂:Sto} {nm:List (Str × NameKind)} {o:Out Sto}
theorem ex_sub {t:Sem Flow} (h:Ex S n env ρ σ t (.next ρ₁ σ₁)) (s:∀ p∈ρ₂,p∈ρ₁):Ex S n env ρ σ t (.next ρ₂ σ₁):=by
 constructor;intro V A sh Q E rm q k
 exact h.run V A sh Q E rm q fun f h' tk g r=>k f h' tk g ⟨r.1,r.2.sub s⟩
theorem sub_nil:∀ p∈([]:List (Str × AV)),p∈ρ:=fun _u h=>nomatch h
theorem sub_keep {q:Str × AV} (h:∀ p∈ρ₁,p∈ρ₂):∀ p∈q::ρ₁,p∈q::ρ₂:=fun p hp=>(List.mem_cons.mp hp).elim (fun e=>e▸.head _) fun k=>.tail _ (h p k)
theorem sub_skip {q:Str × AV} (h:∀ p∈ρ₁,p∈ρ₂):∀ p∈ρ₁,p∈q::ρ₂:=fun p hp=>.tail _ (h p hp)
theorem fa_nil {P:Str × AV→Prop}:∀ p∈([]:List (Str × AV)),P p:=fun _u h=>nomatch h
theorem fa_cons {P:Str × AV→Prop} {q:Str × AV} (h:P q) (k:∀ p∈ρ,P p):∀ p∈q::ρ,P p:=fun p hp=>(List.mem_cons.mp hp).elim (fun e=>e▸h) (k p)
theorem upd_new {x:Str} {a:AV} (h:(ρ.all fun p=>p.1 != x)=true):Upd x a ρ ((x,a)::ρ):=fun p hp=>by
 rcases List.mem_cons.mp hp with rfl | hp
 exact .inl rfl;exact .inr ⟨hp,by simpa using List.all_eq_true.mp h p hp⟩
theorem tr_or2 {x y:Expr} {b c:Bool} (h1:Tr S n env ρ σ (isTrue x env (eval x env)) b σ₁) (h2:b=false→Tr S n env ρ σ₁ (isTrue y env (eval y env)) c σ₁):Tr S n env ρ σ (allTrue .Or [x,y] env) (b||c) σ₁:=by
 refine tr_or h1 (fun hb=>?_) fun hb=>⟨by rw [hb];rfl,rfl⟩
 subst hb
 refine tr_or (h2 rfl) (fun hc=>?_) fun hc=>⟨by rw [hc];rfl,rfl⟩
 subst hc
 exact tr_or_nil
theorem tr_and2 {x y:Expr} {b c:Bool} (h1:Tr S n env ρ σ (isTrue x env (eval x env)) b σ₁) (h2:b=true→Tr S n env ρ σ₁ (isTrue y env (eval y env)) c σ₁):Tr S n env ρ σ (allTrue .And [x,y] env) (b&&c) σ₁:=by
 refine tr_and h1 (fun hb=>?_) fun hb=>⟨by rw [hb];rfl,rfl⟩
 subst hb
 refine tr_and (h2 rfl) (fun hc=>?_) fun hc=>⟨by rw [hc];rfl,rfl⟩
 subst hc
 exact tr_and_nil
theorem tr_and3 {x y z:Expr} {b c d:Bool} (h1:Tr S n env ρ σ (isTrue x env (eval x env)) b σ₁) (h2:b=true→Tr S n env ρ σ₁ (isTrue y env (eval y env)) c σ₁) (h3:c=true→Tr S n env ρ σ₁ (isTrue z env (eval z env)) d σ₁) :
  Tr S n env ρ σ (allTrue .And [x,y,z] env) (b&&(c&&d)) σ₁:=by
 refine tr_and h1 (fun hb=>?_) fun hb=>⟨by rw [hb];rfl,rfl⟩
 subst hb
 show Tr S n env ρ σ₁ _ (c&&d) σ₁
 exact tr_and2 (h2 rfl) h3
theorem ev_and2b {x y:Expr} {pos:Pos} {b c:Bool} (h1:Ev S n env ρ σ (eval x env) (.d (.bool b)) σ₁) (h2:b=true→Ev S n env ρ σ₁ (eval y env) (.d (.bool c)) σ₁) :
  Ev S n env ρ σ (eval (.BoolOp .And [x,y] pos) env) (.d (.bool (b&&c))) σ₁:=
 ev_and2 h1 (fun hb=>by subst hb;exact h2 rfl) fun hb=>⟨by rw [hb];rfl,rfl⟩
theorem ev_or2b {x y:Expr} {pos:Pos} {b c:Bool} (h1:Ev S n env ρ σ (eval x env) (.d (.bool b)) σ₁) (h2:b=false→Ev S n env ρ σ₁ (eval y env) (.d (.bool c)) σ₁) :
  Ev S n env ρ σ (eval (.BoolOp .Or [x,y] pos) env) (.d (.bool (b||c))) σ₁:=
 ev_or2 h1 (fun hb=>by subst hb;exact h2 rfl) fun hb=>⟨by rw [hb];rfl,rfl⟩
theorem cmp_bool_eq {a b:Bool}:Cmp S .Eq (.d (.bool a)) (.d (.bool b)) (.d (.bool (a == b))):=by
 have:=cmp_data_eq (S:=S) (a:=.bool a) (b:=.bool b) (by cases a <;> decide +kernel) (by cases b <;> decide +kernel)
 simpa [PyData.eqv] using this
theorem cmp_bool_ne {a b:Bool}:Cmp S .NotEq (.d (.bool a)) (.d (.bool b)) (.d (.bool (!(a == b)))):=by
 have:=cmp_data_ne (S:=S) (a:=.bool a) (b:=.bool b) (by cases a <;> decide +kernel) (by cases b <;> decide +kernel)
 simpa [PyData.eqv] using this
end rules
section
variable {B:Base} {R:Addr→Prop} {lo:∀ a,R a→B.h₁.get? a=none} {n:Nat} {env:Env} {ρ:List (Str × AV)} {σ σ₁ σ₂:Sto} {a:Addr}
theorem ev_fromW {value lo':Expr} {p pos:Pos} {xs:List PyData} {k:Nat} (hv:Ev (B.sys R lo) n env ρ σ (eval value env) (.v (.ref a)) σ₁) (h2:Ev (B.sys R lo) n env ρ σ₁ (eval lo' env) (.d (.int k)) σ₂) (ka:R a) (e:σ₂ a=some (.list xs)) (hz:xs.length≤1000000) :
  Ev (B.sys R lo) n env ρ σ (eval (.Subscript value (.Slice (some lo') none none p) pos) env) (.d (.list (xs.drop k))) σ₂:=by
 constructor;intro V A s Q E rm q h
 refine Subscript_ (wpAny_pos rm.pos (hv.run V A s _ E rm q fun v h' tk g q1 r p1=>?_))
 have r:v=.ref a:=r
 subst r
 refine wpAny_Slice ((part_some h2).run V A _ _ E (rm.at p1) q1 fun vl ha ta ga qa ra=>?_)
 rw [evalPart_none]
 refine wpAny_pure (wpAny_pure ?_)
 obtain ⟨its,⟨m,hl0⟩,ra'⟩:=wd_list qa.wd ka e
 have hl:ha.IsList a its:=⟨_,hl0,rfl,_,rfl⟩
 obtain ⟨ops,e'⟩:=slices_plain (lo:=some lo') (hi:=none) (p:=p) (.ref a) (.ref ha.objs.size)
 dsimp only
 refine tail_any (hl.push _).typeIs slot_list_getitem.lookup (wpAny_getItem_list_slice (hl.push _) (Heap.IsSliceOf.new ..) ra .none .none (by simp) ?_ ?_) e'
 ·refine h _ _ ta (((g.trans ga).trans (Grow.push _ _)).trans (Grow.push _ _)) ((qa.more (Grow.push _ _)).more (Grow.push _ _)) ?_
  refine .list (fresh_off (qa.more (Grow.push _ _)).vok.2) (Heap.get?_push_size _ rfl) ⟨rfl,rfl,rfl⟩ rfl (RdAll.grow ((Grow.push (X:=fun _u=>False) _ _).trans (Grow.push _ _)) (fun _u k=>k.elim) ?_)
  rw [slicePick_from'];simpa using ra'.drop k
 rw [ra'.size];exact Nat.le_trans hz (by decide)
end
open Classical in
theorem kvGet_set_if {kvs:List (PyData × AV)} {k k':PyData} {v:AV} (hk:∀ p∈kvs,KeyD 6 p.1) (h6:KeyD 6 k) (h6':KeyD 6 k'):kvGet (kvSet kvs k v) k'=if k=k' then some v else kvGet kvs k':=by
 induction kvs with
 | nil=>
  show (if PyData.eqv k k'=true then some v else none)=if k=k' then some v else none
  by_cases e:k=k'
  ·rw [if_pos e,if_pos ((h6.eqv h6').mpr e)]
  rw [if_neg e,if_neg fun q=>e ((h6.eqv h6').mp q)]
 | cons p r ih=>
  have hp:=hk p (.head _)
  have ih:=ih fun p hp=>hk p (.tail _ hp)
  rw [kvSet]
  by_cases e1:PyData.eqv p.1 k=true
  ·rw [if_pos e1]
   have e1':=(hp.eqv h6).mp e1
   rw [kvGet,kvGet]
   by_cases e:k=k'
   ·rw [if_pos e,if_pos ((hp.eqv h6').mpr (e1'.trans e))]
   rw [if_neg e,if_neg fun q=>e (e1'.symm.trans ((hp.eqv h6').mp q)),if_neg fun q=>e (e1'.symm.trans ((hp.eqv h6').mp q))]
  rw [if_neg e1]
  rw [kvGet,kvGet]
  rw [ih]
  by_cases e2:PyData.eqv p.1 k'=true
  ·rw [if_pos e2,if_pos e2,if_neg]
   rintro rfl
   exact e1 e2
  rw [if_neg e2,if_neg e2]
theorem kvGet_same {kvs:List (PyData × AV)} {k:PyData} {v:AV} (hk:∀ p∈kvs,KeyD 6 p.1) (h6:KeyD 6 k):kvGet (kvSet kvs k v) k=some v:=by rw [kvGet_set_if hk h6 h6,if_pos rfl]
theorem kvGet_other {kvs:List (PyData × AV)} {k k':PyData} {v:AV} (hk:∀ p∈kvs,KeyD 6 p.1) (h6:KeyD 6 k) (h6':KeyD 6 k') (n:k≠k'):kvGet (kvSet kvs k v) k'=kvGet kvs k':=by rw [kvGet_set_if hk h6 h6',if_neg n]
theorem kvSet_mem {kvs:List (PyData × AV)} {k:PyData} {v:AV}:∀ p∈kvSet kvs k v,p.1=k∨∃ q∈kvs,p.1=q.1:=by
 induction kvs with
 | nil=>intro p hp;rw [kvSet] at hp;rw [List.mem_singleton.mp hp];exact .inl rfl
 | cons q r ih=>
  intro p hp
  rw [kvSet] at hp
  split at hp
  ·rcases List.mem_cons.mp hp with rfl | hp
   exact .inr ⟨q,.head _,rfl⟩;exact .inr ⟨p,.tail _ hp,rfl⟩
  rcases List.mem_cons.mp hp with rfl | hp
  exact .inr ⟨p,.head _,rfl⟩
  rcases ih p hp with e | ⟨x,hx,e⟩
  exact .inl e;exact .inr ⟨x,.tail _ hx,e⟩
theorem kvSet_keyD {kvs:List (PyData × AV)} {k:PyData} {v:AV} (hk:∀ p∈kvs,KeyD 6 p.1) (h6:KeyD 6 k):∀ p∈kvSet kvs k v,KeyD 6 p.1:=fun p hp=>by
 rcases kvSet_mem p hp with e | ⟨q,hq,e⟩
 ·rw [e];exact h6
 rw [e];exact hk q hq
theorem kvSet_len {kvs:List (PyData × AV)} {k:PyData} {v:AV}:(kvSet kvs k v).length≤kvs.length+1:=by
 induction kvs with
 | nil=>exact Nat.le_refl _
 | cons q r ih=>
  rw [kvSet]
  split
  ·simp
  rw [List.length_cons,List.length_cons];walk_at "o"
theorem kvGet_off {kvs:List (PyData × AV)} {k:PyData} (ks:List PyData) (e:kvs.map (·.1)=ks) (h:(ks.all fun k'=>!PyData.eqv k' k)=true):kvGet kvs k=none:=by
 subst e
 induction kvs with
 | nil=>rfl
 | cons p r ih=>
  rw [List.map_cons,List.all_cons,Bool.and_eq_true] at h
  rw [kvGet]
  rw [if_neg (by simpa using h.1)]
  exact ih h.2
noncomputable def judgeKv (bk tb:Addr):List (PyData × AV):=[(.str "bank",.v (.ref bk)),(.str "tables",.v (.ref tb))]
@[reducible] noncomputable def judgeKeys:List PyData:=[.str "bank",.str "tables"]
theorem judge_off {bk tb:Addr} {k:PyData} (h:(judgeKeys.all fun k'=>!PyData.eqv k' k)=true):kvGet (judgeKv bk tb) k=none:=kvGet_off judgeKeys rfl h
theorem judge_str {bk tb:Addr}:strKeys (judgeKv bk tb)=true:=rfl
theorem judge_bank {bk tb:Addr}:kvGet (judgeKv bk tb) (.str "bank")=some (.v (.ref bk)):=by rw [judgeKv,kvGet_hit (by decide +kernel)]
noncomputable abbrev Judge (R:Addr→Prop) (σ:Sto) (J dJ bk tb:Addr):Prop:=Obj' R σ J 845 dJ (judgeKv bk tb)
theorem spot_key {i:Nat} (hi:i<5):KeyD 6 (spotU i):=by
 rcases five hi with rfl | rfl | rfl | rfl | rfl
 exact .int _;exact .int _;exact .int _
 ·refine .tup fun x hx=>?_
  rcases List.mem_cons.mp hx with rfl | hx
  exact .str _ (by decide +kernel)
  rcases List.mem_cons.mp hx with rfl | hx
  exact .int _
  rw [List.mem_singleton.mp hx];exact .int _
 refine .tup fun x hx=>?_
 rcases List.mem_cons.mp hx with rfl | hx
 exact .str _ (by decide +kernel)
 rcases List.mem_cons.mp hx with rfl | hx
 exact .int _
 rw [List.mem_singleton.mp hx];exact .int _
noncomputable def Fm.eval (v:Nat→Bool):Fm→Bool
 | .atom i=>v i
 | .tt=>true
 | .ff=>false
 | .not f=>!f.eval v
 | .or f g=>f.eval v||g.eval v
 | .and f g=>f.eval v&&g.eval v
 | .iff f g=>f.eval v == g.eval v
 | .xor f g=>!(f.eval v == g.eval v)
noncomputable def Fm.known (kvs:List (PyData × AV)) (v:Nat→Bool):Fm→Prop
 | .atom i=>i<5∧kvGet kvs (spotU i)=some (.d (.bool (v i)))
 | .tt | .ff=>True
 | .not f=>f.known kvs v
 | .or f g | .and f g | .iff f g | .xor f g=>f.known kvs v∧g.known kvs v
local macro_rules | `(tactic| walk_at "c")=>`(tactic| with_reducible first | exact cmp_bool_eq | exact cmp_bool_ne)
section
variable {B:Base} {R:Addr→Prop} {lo:∀ a,R a→B.h₁.get? a=none} {σ:Sto}
theorem c_holds (hK:(KZ B.w.params).In B.h₁) {J dJ bk tb W:Addr} {kvs:List (PyData × AV)} {v:Nat→Bool} (I:Judge R σ J dJ bk tb) (rW:R W) (hW:σ W=some (.dict kvs)):∀ (f:Fm),f.known kvs v→FS (B.sys R lo) (f.ht+1) 752 [.v (.ref J),.d f.dataU,.v (.ref W)] σ (.d (.bool (f.eval v))) σ:=by
 intro f
 induction f with
 | atom i=>
  intro hw
  show FS _ (0+1) _ [_,.d (.tuple [.str "atom",spotU i]),_] _ (.d (.bool (v i))) _
  refine fs_def (names:=["self","formula","world"]) hK ?h_1
  case h_1=>
   intro env f
   change Ex _ _ _ [("self",_),("formula",_),("world",_)] _ _ _
   walk_at "2";(with_reducible apply ex_assign);walk_at "f";walk_at "d";(with_reducible apply ev_sub);walk_at "n";exact ev_int;walk_at "s";walk_at "u";rfl;walk_at "6";(with_reducible apply ex_if (b:=true));walk_at "5";walk_at "4";walk_at "n";exact ev_str;walk_at "c";(with_unfolding_all rfl);walk_at "t"
   ·intro _
    walk_at "6";(with_reducible apply ex_ret;apply ev_subW);walk_at "n";(with_reducible apply ev_sub);walk_at "n";exact ev_int;walk_at "s";exact opw_ditem rW hW (spot_key hw.1) hw.2
   intro h;cases h
 | tt=>
  intro hw
  show FS _ (0+1) _ [_,.d (.tuple [.str "true"]),_] _ (.d (.bool (true))) _
  refine fs_def (names:=["self","formula","world"]) hK ?h_2
  case h_2=>
   intro env f
   change Ex _ _ _ [("self",_),("formula",_),("world",_)] _ _ _
   walk_at "2";(with_reducible apply ex_assign);walk_at "f";walk_at "d";(with_reducible apply ev_sub);walk_at "n";exact ev_int;walk_at "s";walk_at "u";rfl;walk_at "2"
   ·with_reducible apply ex_if (b:=false)
    walk_at "5";walk_at "4";walk_at "n";exact ev_str;walk_at "c";(with_unfolding_all rfl);walk_at "t";intro h;cases h
    intro _
    exact ex_nil
   walk_at "6";(with_reducible apply ex_if (b:=true))
   ·walk_at "5"
    ·with_reducible apply tr_bool
     (with_reducible apply tr_or2 (c:=false));walk_at "4";walk_at "n";exact ev_str;walk_at "c";(with_unfolding_all rfl)
     intro h;exact absurd h (by decide +kernel)
    walk_at "t"
   ·intro _
    walk_at "6";(with_reducible apply ex_ret;apply ev_is;apply ev_cmp);walk_at "n";exact ev_str;walk_at "c";(with_unfolding_all rfl)
    first | rfl | (congr 1;decide +kernel) | (simp;done)
   intro h;cases h
 | ff=>
  intro hw
  show FS _ (0+1) _ [_,.d (.tuple [.str "false"]),_] _ (.d (.bool (false))) _
  refine fs_def (names:=["self","formula","world"]) hK ?h_3
  case h_3=>
   intro env f
   change Ex _ _ _ [("self",_),("formula",_),("world",_)] _ _ _
   walk_at "2";(with_reducible apply ex_assign);walk_at "f";walk_at "d";(with_reducible apply ev_sub);walk_at "n";exact ev_int;walk_at "s";walk_at "u";rfl;walk_at "2"
   ·with_reducible apply ex_if (b:=false)
    walk_at "5";walk_at "4";walk_at "n";exact ev_str;walk_at "c";(with_unfolding_all rfl);walk_at "t";intro h;cases h
    intro _
    exact ex_nil
   walk_at "6";(with_reducible apply ex_if (b:=true))
   ·walk_at "5"
    ·with_reducible apply tr_bool
     (with_reducible apply tr_or2);walk_at "4";walk_at "n";exact ev_str;walk_at "c";(with_unfolding_all rfl)
     intro _
     walk_at "4";walk_at "n";exact ev_str;walk_at "c";(with_unfolding_all rfl)
    walk_at "t"
   ·intro _
    walk_at "6";(with_reducible apply ex_ret;apply ev_is;apply ev_cmp);walk_at "n";exact ev_str;walk_at "c";(with_unfolding_all rfl)
    first | rfl | (congr 1;decide +kernel) | (simp;done)
   intro h;cases h
 | not f ih=>
  intro hw
  show FS _ (f.ht+1+1) _ [_,.d (.tuple [.str "not",f.dataU]),_] _ (.d (.bool (!f.eval v))) _
  refine fs_def (names:=["self","formula","world"]) hK ?h_4
  case h_4=>
   intro env f
   change Ex _ _ _ [("self",_),("formula",_),("world",_)] _ _ _
   walk_at "2";(with_reducible apply ex_assign);walk_at "f";walk_at "d";(with_reducible apply ev_sub);walk_at "n";exact ev_int;walk_at "s";walk_at "u";rfl;walk_at "2"
   ·with_reducible apply ex_if (b:=false)
    walk_at "5";walk_at "4";walk_at "n";exact ev_str;walk_at "c";(with_unfolding_all rfl);walk_at "t";intro h;cases h
    intro _
    exact ex_nil
   walk_at "2"
   ·with_reducible apply ex_if (b:=false)
    ·walk_at "5"
     ·with_reducible apply tr_bool
      (with_reducible apply tr_or2);walk_at "4";walk_at "n";exact ev_str;walk_at "c";(with_unfolding_all rfl)
      intro _
      walk_at "4";walk_at "n";exact ev_str;walk_at "c";(with_unfolding_all rfl)
     walk_at "t"
    intro h;cases h
    intro _
    exact ex_nil
   walk_at "2";(with_reducible apply ex_assign);walk_at "f";walk_at "d";(with_reducible apply ev_methd);assumption;walk_at "n";exact I;rfl;exact judge_off (by decide +kernel);k_is;k_is;k_is;k_is;rfl;walk_at "1";(with_reducible apply ev_sub);walk_at "n";exact ev_int;walk_at "s";walk_at "1";walk_at "n";exact evs_nil;rfl;rfl;exact ih hw;walk_at "k";rfl;rfl;walk_at "u";rfl;walk_at "6";(with_reducible apply ex_if (b:=true));walk_at "5";walk_at "4";walk_at "n";exact ev_str;walk_at "c";(with_unfolding_all rfl);walk_at "t"
   ·intro _
    walk_at "6";(with_reducible apply ex_ret;apply ev_not);walk_at "n"
   intro h;cases h
 | or f g ih1 ih2=>
  intro hw
  show FS _ (max f.ht g.ht+1+1) _ [_,.d (.tuple [.str "or",f.dataU,g.dataU]),_] _ (.d (.bool (f.eval v||g.eval v))) _
  refine fs_def (names:=["self","formula","world"]) hK ?h_5
  case h_5=>
   intro env f
   change Ex _ _ _ [("self",_),("formula",_),("world",_)] _ _ _
   walk_at "2";(with_reducible apply ex_assign);walk_at "f";walk_at "d";(with_reducible apply ev_sub);walk_at "n";exact ev_int;walk_at "s";walk_at "u";rfl;walk_at "2"
   ·with_reducible apply ex_if (b:=false)
    walk_at "5";walk_at "4";walk_at "n";exact ev_str;walk_at "c";(with_unfolding_all rfl);walk_at "t";intro h;cases h
    intro _
    exact ex_nil
   walk_at "2"
   ·with_reducible apply ex_if (b:=false)
    ·walk_at "5"
     ·with_reducible apply tr_bool
      (with_reducible apply tr_or2);walk_at "4";walk_at "n";exact ev_str;walk_at "c";(with_unfolding_all rfl)
      intro _
      walk_at "4";walk_at "n";exact ev_str;walk_at "c";(with_unfolding_all rfl)
     walk_at "t"
    intro h;cases h
    intro _
    exact ex_nil
   walk_at "2";(with_reducible apply ex_assign);walk_at "f";walk_at "d";(with_reducible apply ev_methd);assumption;walk_at "n";exact I;rfl;exact judge_off (by decide +kernel);k_is;k_is;k_is;k_is;rfl;walk_at "1";(with_reducible apply ev_sub);walk_at "n";exact ev_int;walk_at "s";walk_at "1";walk_at "n";exact evs_nil;rfl;rfl;exact ih1 hw.1;walk_at "k";rfl;rfl;walk_at "u";rfl;walk_at "2"
   ·with_reducible apply ex_if (b:=false)
    walk_at "5";walk_at "4";walk_at "n";exact ev_str;walk_at "c";(with_unfolding_all rfl);walk_at "t";intro h;cases h
    intro _
    exact ex_nil
   walk_at "2";(with_reducible apply ex_assign);walk_at "f";walk_at "d";(with_reducible apply ev_methd);assumption;walk_at "n";exact I;rfl;exact judge_off (by decide +kernel);k_is;k_is;k_is;k_is;rfl;walk_at "1";(with_reducible apply ev_sub);walk_at "n";exact ev_int;walk_at "s";walk_at "1";walk_at "n";exact evs_nil;rfl;rfl;exact ih2 hw.2;walk_at "k";rfl;rfl;walk_at "u";rfl;walk_at "2"
   ·with_reducible apply ex_if (b:=false)
    walk_at "5";walk_at "4";walk_at "n";exact ev_str;walk_at "c";(with_unfolding_all rfl);walk_at "t";intro h;cases h
    intro _
    exact ex_nil
   walk_at "6";(with_reducible apply ex_if (b:=true));walk_at "5";walk_at "4";walk_at "n";exact ev_str;walk_at "c";(with_unfolding_all rfl);walk_at "t"
   ·intro _
    walk_at "6";(with_reducible apply ex_ret;apply ev_or2b);walk_at "n"
    intro _
    walk_at "n"
   intro h;cases h
 | and f g ih1 ih2=>
  intro hw
  show FS _ (max f.ht g.ht+1+1) _ [_,.d (.tuple [.str "and",f.dataU,g.dataU]),_] _ (.d (.bool (f.eval v&&g.eval v))) _
  refine fs_def (names:=["self","formula","world"]) hK ?h_6
  case h_6=>
   intro env f
   change Ex _ _ _ [("self",_),("formula",_),("world",_)] _ _ _
   walk_at "2";(with_reducible apply ex_assign);walk_at "f";walk_at "d";(with_reducible apply ev_sub);walk_at "n";exact ev_int;walk_at "s";walk_at "u";rfl;walk_at "2"
   ·with_reducible apply ex_if (b:=false)
    walk_at "5";walk_at "4";walk_at "n";exact ev_str;walk_at "c";(with_unfolding_all rfl);walk_at "t";intro h;cases h
    intro _
    exact ex_nil
   walk_at "2"
   ·with_reducible apply ex_if (b:=false)
    ·walk_at "5"
     ·with_reducible apply tr_bool
      (with_reducible apply tr_or2);walk_at "4";walk_at "n";exact ev_str;walk_at "c";(with_unfolding_all rfl)
      intro _
      walk_at "4";walk_at "n";exact ev_str;walk_at "c";(with_unfolding_all rfl)
     walk_at "t"
    intro h;cases h
    intro _
    exact ex_nil
   walk_at "2";(with_reducible apply ex_assign);walk_at "f";walk_at "d";(with_reducible apply ev_methd);assumption;walk_at "n";exact I;rfl;exact judge_off (by decide +kernel);k_is;k_is;k_is;k_is;rfl;walk_at "1";(with_reducible apply ev_sub);walk_at "n";exact ev_int;walk_at "s";walk_at "1";walk_at "n";exact evs_nil;rfl;rfl;exact ih1 hw.1;walk_at "k";rfl;rfl;walk_at "u";rfl;walk_at "2"
   ·with_reducible apply ex_if (b:=false)
    walk_at "5";walk_at "4";walk_at "n";exact ev_str;walk_at "c";(with_unfolding_all rfl);walk_at "t";intro h;cases h
    intro _
    exact ex_nil
   walk_at "2";(with_reducible apply ex_assign);walk_at "f";walk_at "d";(with_reducible apply ev_methd);assumption;walk_at "n";exact I;rfl;exact judge_off (by decide +kernel);k_is;k_is;k_is;k_is;rfl;walk_at "1";(with_reducible apply ev_sub);walk_at "n";exact ev_int;walk_at "s";walk_at "1";walk_at "n";exact evs_nil;rfl;rfl;exact ih2 hw.2;walk_at "k";rfl;rfl;walk_at "u";rfl;walk_at "6";(with_reducible apply ex_if (b:=true));walk_at "5";walk_at "4";walk_at "n";exact ev_str;walk_at "c";(with_unfolding_all rfl);walk_at "t"
   ·intro _
    walk_at "6";(with_reducible apply ex_ret;apply ev_and2b);walk_at "n"
    intro _
    walk_at "n"
   intro h;cases h
 | iff f g ih1 ih2=>
  intro hw
  show FS _ (max f.ht g.ht+1+1) _ [_,.d (.tuple [.str "iff",f.dataU,g.dataU]),_] _ (.d (.bool (f.eval v == g.eval v))) _
  refine fs_def (names:=["self","formula","world"]) hK ?h_7
  case h_7=>
   intro env f
   change Ex _ _ _ [("self",_),("formula",_),("world",_)] _ _ _
   walk_at "2";(with_reducible apply ex_assign);walk_at "f";walk_at "d";(with_reducible apply ev_sub);walk_at "n";exact ev_int;walk_at "s";walk_at "u";rfl;walk_at "2"
   ·with_reducible apply ex_if (b:=false)
    walk_at "5";walk_at "4";walk_at "n";exact ev_str;walk_at "c";(with_unfolding_all rfl);walk_at "t";intro h;cases h
    intro _
    exact ex_nil
   walk_at "2"
   ·with_reducible apply ex_if (b:=false)
    ·walk_at "5"
     ·with_reducible apply tr_bool
      (with_reducible apply tr_or2);walk_at "4";walk_at "n";exact ev_str;walk_at "c";(with_unfolding_all rfl)
      intro _
      walk_at "4";walk_at "n";exact ev_str;walk_at "c";(with_unfolding_all rfl)
     walk_at "t"
    intro h;cases h
    intro _
    exact ex_nil
   walk_at "2";(with_reducible apply ex_assign);walk_at "f";walk_at "d";(with_reducible apply ev_methd);assumption;walk_at "n";exact I;rfl;exact judge_off (by decide +kernel);k_is;k_is;k_is;k_is;rfl;walk_at "1";(with_reducible apply ev_sub);walk_at "n";exact ev_int;walk_at "s";walk_at "1";walk_at "n";exact evs_nil;rfl;rfl;exact ih1 hw.1;walk_at "k";rfl;rfl;walk_at "u";rfl;walk_at "2"
   ·with_reducible apply ex_if (b:=false)
    walk_at "5";walk_at "4";walk_at "n";exact ev_str;walk_at "c";(with_unfolding_all rfl);walk_at "t";intro h;cases h
    intro _
    exact ex_nil
   walk_at "2";(with_reducible apply ex_assign);walk_at "f";walk_at "d";(with_reducible apply ev_methd);assumption;walk_at "n";exact I;rfl;exact judge_off (by decide +kernel);k_is;k_is;k_is;k_is;rfl;walk_at "1";(with_reducible apply ev_sub);walk_at "n";exact ev_int;walk_at "s";walk_at "1";walk_at "n";exact evs_nil;rfl;rfl;exact ih2 hw.2;walk_at "k";rfl;rfl;walk_at "u";rfl;walk_at "2"
   ·with_reducible apply ex_if (b:=false)
    walk_at "5";walk_at "4";walk_at "n";exact ev_str;walk_at "c";(with_unfolding_all rfl);walk_at "t";intro h;cases h
    intro _
    exact ex_nil
   walk_at "2"
   ·with_reducible apply ex_if (b:=false)
    walk_at "5";walk_at "4";walk_at "n";exact ev_str;walk_at "c";(with_unfolding_all rfl);walk_at "t";intro h;cases h
    intro _
    exact ex_nil
   walk_at "6";(with_reducible apply ex_ret;apply ev_ite (b:=true));walk_at "5";walk_at "4";walk_at "n";exact ev_str;walk_at "c";(with_unfolding_all rfl);walk_at "t"
   ·intro _
    (with_reducible apply ev_cmp);walk_at "n";walk_at "n";walk_at "c";(with_unfolding_all rfl)
   intro h;cases h
 | xor f g ih1 ih2=>
  intro hw
  show FS _ (max f.ht g.ht+1+1) _ [_,.d (.tuple [.str "xor",f.dataU,g.dataU]),_] _ (.d (.bool (!(f.eval v == g.eval v)))) _
  refine fs_def (names:=["self","formula","world"]) hK ?h_8
  case h_8=>
   intro env f
   change Ex _ _ _ [("self",_),("formula",_),("world",_)] _ _ _
   walk_at "2";(with_reducible apply ex_assign);walk_at "f";walk_at "d";(with_reducible apply ev_sub);walk_at "n";exact ev_int;walk_at "s";walk_at "u";rfl;walk_at "2"
   ·with_reducible apply ex_if (b:=false)
    walk_at "5";walk_at "4";walk_at "n";exact ev_str;walk_at "c";(with_unfolding_all rfl);walk_at "t";intro h;cases h
    intro _
    exact ex_nil
   walk_at "2"
   ·with_reducible apply ex_if (b:=false)
    ·walk_at "5"
     ·with_reducible apply tr_bool
      (with_reducible apply tr_or2);walk_at "4";walk_at "n";exact ev_str;walk_at "c";(with_unfolding_all rfl)
      intro _
      walk_at "4";walk_at "n";exact ev_str;walk_at "c";(with_unfolding_all rfl)
     walk_at "t"
    intro h;cases h
    intro _
    exact ex_nil
   walk_at "2";(with_reducible apply ex_assign);walk_at "f";walk_at "d";(with_reducible apply ev_methd);assumption;walk_at "n";exact I;rfl;exact judge_off (by decide +kernel);k_is;k_is;k_is;k_is;rfl;walk_at "1";(with_reducible apply ev_sub);walk_at "n";exact ev_int;walk_at "s";walk_at "1";walk_at "n";exact evs_nil;rfl;rfl;exact ih1 hw.1;walk_at "k";rfl;rfl;walk_at "u";rfl;walk_at "2"
   ·with_reducible apply ex_if (b:=false)
    walk_at "5";walk_at "4";walk_at "n";exact ev_str;walk_at "c";(with_unfolding_all rfl);walk_at "t";intro h;cases h
    intro _
    exact ex_nil
   walk_at "2";(with_reducible apply ex_assign);walk_at "f";walk_at "d";(with_reducible apply ev_methd);assumption;walk_at "n";exact I;rfl;exact judge_off (by decide +kernel);k_is;k_is;k_is;k_is;rfl;walk_at "1";(with_reducible apply ev_sub);walk_at "n";exact ev_int;walk_at "s";walk_at "1";walk_at "n";exact evs_nil;rfl;rfl;exact ih2 hw.2;walk_at "k";rfl;rfl;walk_at "u";rfl;walk_at "2"
   ·with_reducible apply ex_if (b:=false)
    walk_at "5";walk_at "4";walk_at "n";exact ev_str;walk_at "c";(with_unfolding_all rfl);walk_at "t";intro h;cases h
    intro _
    exact ex_nil
   walk_at "2"
   ·with_reducible apply ex_if (b:=false)
    walk_at "5";walk_at "4";walk_at "n";exact ev_str;walk_at "c";(with_unfolding_all rfl);walk_at "t";intro h;cases h
    intro _
    exact ex_nil
   walk_at "6";(with_reducible apply ex_ret;apply ev_ite (b:=false));walk_at "5";walk_at "4";walk_at "n";exact ev_str;walk_at "c";(with_unfolding_all rfl);walk_at "t";intro h;cases h
   intro _
   (with_reducible apply ev_cmp);walk_at "n";walk_at "n";walk_at "c";(with_unfolding_all rfl)
end
section
section
variable {S:Sys} {n:Nat} {env:Env} {ρ:List (Str × AV)} {σ:Sto} {x:Str} {body:List Stmt} {α β:Type}
theorem turns_fold (it:α→PyData) (st:β→Sto) (step:β→α→β) (Inv:Nat→β→Prop) (hu:(ρ.all fun p=>p.1 != x)=true):∀ (l:List α) (acc:β),Inv l.length acc →
  (∀ r∈l,∀ m acc,Inv (m+1) acc→Inv m (step acc r)∧Ex S n env ((x,.d (it r))::ρ) (st acc) (execs body env) (.next ρ (st (step acc r)))) →
  Turns S n env x body (l.map it) ρ (st acc) (.next ρ (st (l.foldl step acc)))
 | [],_,_,_=>.nil
 | r::l,acc,hi,h=>by
  obtain ⟨h1,h2⟩:=h r (.head _) l.length acc hi
  exact .cons (upd_new hu) h2 (turns_fold it st step Inv hu l _ h1 fun r hr=>h r (.tail _ hr))
end
noncomputable def setAllKv {α:Type} (key:α→PyData) (val:α→AV) (kvs:List (PyData × AV)) (l:List α):List (PyData × AV):=l.foldl (fun m x=>kvSet m (key x) (val x)) kvs
theorem setAllKv_spec {α:Type} {key:α→PyData} {val:α→AV}:∀ {l:List α} {kvs:List (PyData × AV)},(∀ x∈l,KeyD 6 (key x))→(∀ p∈kvs,KeyD 6 p.1)→(l.map key).Nodup →
  (∀ p∈setAllKv key val kvs l,KeyD 6 p.1)∧(setAllKv key val kvs l).length≤kvs.length+l.length∧(∀ x∈l,kvGet (setAllKv key val kvs l) (key x)=some (val x)) ∧
  (∀ k,KeyD 6 k→(∀ x∈l,key x≠k)→kvGet (setAllKv key val kvs l) k=kvGet kvs k)
 | [],kvs,_,hk,_=>⟨hk,Nat.le_refl _,fun _u h=>by simp at h,fun _u _u _u=>rfl⟩
 | y::l,kvs,h6,hk,hn=>by
  rw [List.map_cons,List.nodup_cons] at hn
  have hy:=h6 y (.head _)
  have hk':∀ p∈kvSet kvs (key y) (val y),KeyD 6 p.1:=kvSet_keyD hk hy
  obtain ⟨a,b,c,d⟩:=setAllKv_spec (l:=l) (val:=val) (fun x hx=>h6 x (.tail _ hx)) hk' hn.2
  refine ⟨a,?_,fun x hx=>?_,fun k h6k hk0=>?_⟩
  ·have:=kvSet_len (kvs:=kvs) (k:=key y) (v:=val y)
   have b:(setAllKv key val kvs (y::l)).length≤_:=b
   rw [List.length_cons];walk_at "o"
  ·rcases List.mem_cons.mp hx with rfl | hx
   ·have:=d (key x) hy fun z hz e=>hn.1 (List.mem_map.mpr ⟨z,hz,e⟩)
    exact this.trans (kvGet_same hk hy)
   exact c x hx
  exact (d k h6k fun x hx=>hk0 x (.tail _ hx)).trans (kvGet_other hk hy h6k (hk0 y (.head _)))
@[reducible] noncomputable def abs' (c:Int):Int:=if c<0 then -c else c
@[reducible] noncomputable def keyC (c:Int):PyData:=.int (abs' c)
noncomputable def Fm.put1 (as:List PyData):Fm→List PyData
 | .atom i=>if (as.any fun y=>PyData.eqv y (spotU i))=true then as else as++[spotU i]
 | _=>as
noncomputable def Fm.kids:Fm→List Fm
 | .atom _ | .tt | .ff=>[]
 | .not f=>[f]
 | .or f g | .and f g | .iff f g | .xor f g=>[g,f]
noncomputable def Fm.addAll:Fm→List PyData→List PyData
 | .atom i,as=>Fm.put1 as (.atom i)
 | .tt,as | .ff,as=>as
 | .not f,as=>f.addAll as
 | .or f g,as | .and f g,as | .iff f g,as | .xor f g,as=>f.addAll (g.addAll as)
noncomputable def scanAll (st:List Fm) (as:List PyData):List PyData:=st.foldl (fun as f=>f.addAll as) as
theorem scan_cons {f:Fm} {st:List Fm} {as:List PyData}:scanAll (f::st) as=scanAll (f.kids++st) (f.put1 as):=by
 cases f <;> rfl
noncomputable def Fm.size:Fm→Nat
 | .atom _ | .tt | .ff=>1
 | .not f=>f.size+1
 | .or f g | .and f g | .iff f g | .xor f g=>g.size+f.size+1
theorem size_kids {f:Fm}:f.size=(f.kids.map Fm.size).sum+1:=by cases f <;> rfl
theorem size_le:∀ {f:Fm},f.size+1≤2 ^ (f.ht+1)
 | .atom _=>Nat.le_refl 2
 | .tt=>Nat.le_refl 2
 | .ff=>Nat.le_refl 2
 | .not f=>by
  have:=size_le (f:=f)
  show f.size+1+1≤2 ^ (f.ht+1+1);rw [Nat.pow_succ];walk_at "o"
 | .or f g | .and f g | .iff f g | .xor f g=>by
  have h1:=size_le (f:=f)
  have h2:=size_le (f:=g)
  show g.size+f.size+1+1≤2 ^ (max f.ht g.ht+1+1)
  have p1:2 ^ (f.ht+1)≤2 ^ (max f.ht g.ht+1):=Nat.pow_le_pow_right (by decide) (by walk_at "o")
  have p2:2 ^ (g.ht+1)≤2 ^ (max f.ht g.ht+1):=Nat.pow_le_pow_right (by decide) (by walk_at "o")
  rw [Nat.pow_succ 2 (max f.ht g.ht+1)];walk_at "o"
theorem kids_wf {f:Fm} (h:f.wf):∀ g∈f.kids,g.wf:=by
 cases f <;> intro g hg <;> first | (cases hg;done) | (rw [List.mem_singleton.mp hg];exact h) | (rcases List.mem_cons.mp hg with e | hg;exact e▸h.2;rw [List.mem_singleton.mp hg];exact h.1)
theorem put1_key {f:Fm} (h:f.wf) {as:List PyData} (hk:∀ x∈as,KeyD 6 x):∀ x∈f.put1 as,KeyD 6 x:=by
 cases f with
 | atom i=>
  intro x hx
  have hx:x∈if (as.any fun y=>PyData.eqv y (spotU i))=true then as else as++[spotU i]:=hx
  split at hx
  exact hk x hx
  rcases List.mem_append.mp hx with hx | hx
  exact hk x hx
  rw [List.mem_singleton.mp hx];exact spot_key h
 | _=>exact hk
theorem put1_len {f:Fm} {as:List PyData}:(f.put1 as).length≤as.length+1:=by
 cases f with
 | atom i=>
  show (if (as.any fun y=>PyData.eqv y (spotU i))=true then as else as++[spotU i]).length≤as.length+1
  split
  ·walk_at "o"
  simp
 | _=>exact Nat.le_succ _
theorem addAll_len:∀ {f:Fm} {as:List PyData},(f.addAll as).length≤as.length+f.size
 | .atom i,as=>put1_len
 | .tt,as=>Nat.le_add_right _ _
 | .ff,as=>Nat.le_add_right _ _
 | .not f,as=>by
  have:=addAll_len (f:=f) (as:=as)
  show (f.addAll as).length≤as.length+(f.size+1);walk_at "o"
 | .or f g,as | .and f g,as | .iff f g,as | .xor f g,as=>by
  have:=addAll_len (f:=g) (as:=as)
  have:=addAll_len (f:=f) (as:=g.addAll as)
  show (f.addAll (g.addAll as)).length≤as.length+(g.size+f.size+1);walk_at "o"
theorem lay_all {xs:List PyData} (h:∀ x∈xs,KeyD 6 x):PyData.canLayAll0 xs=true:=by
 induction xs with
 | nil=>simp [PyData.canLayAll0]
 | cons x xs ih=>simp [PyData.canLayAll0,(h x (.head _)).lay.1,ih fun x hx=>h x (.tail _ hx)]
@[reducible] noncomputable def scanW (σ:Sto) (A K:Addr) (as l:List PyData):Sto:=put (put σ A (.list as)) K (.list l)
@[reducible] noncomputable def stackOf (st:List Fm):List PyData:=(st.map Fm.dataU).reverse
structure SInv (k:Nat) (st:List Fm) (as:List PyData):Prop where
 size:(st.map Fm.size).sum=k
 wf:∀ f∈st,f.wf
 key:∀ x∈as,KeyD 6 x
 len:as.length+k≤1000
theorem SInv.step {k:Nat} {f:Fm} {st:List Fm} {as:List PyData} (h:SInv k (f::st) as):∃ k',k=k'+1∧SInv k' (f.kids++st) (f.put1 as):=by
 have hs:=h.size
 rw [List.map_cons,List.sum_cons,size_kids] at hs
 refine ⟨(f.kids.map Fm.size).sum+(st.map Fm.size).sum,by walk_at "o",by rw [List.map_append,List.sum_append],fun g hg=>?_,put1_key (h.wf f (.head _)) h.key,?_⟩
 ·rcases List.mem_append.mp hg with hg | hg
  exact kids_wf (h.wf f (.head _)) g hg;exact h.wf g (.tail _ hg)
 have:=put1_len (f:=f) (as:=as)
 have:=h.len
 walk_at "o"
theorem SInv.st {k:Nat} {st:List Fm} {as:List PyData} (h:SInv k st as):st.length≤k:=by
 have:=h.size
 clear h
 induction st generalizing k with
 | nil=>simp
 | cons f st ih=>
  rw [List.map_cons,List.sum_cons] at this
  have:=ih (k:=(st.map Fm.size).sum) rfl
  have hf:1≤f.size:=by rw [size_kids];walk_at "o"
  rw [List.length_cons];walk_at "o"
theorem scan_turns {S:Sys} {n:Nat} {env:Env} {ρ:List (Str × AV)} {σ:Sto} {A K:Addr} {test:Expr} {body:List Stmt}
  (ht:∀ k st as,SInv k st as→Tr S n env ρ (scanW σ A K as (stackOf st)) (isTrue test env (eval test env)) (!st.isEmpty) (scanW σ A K as (stackOf st)))
  (hb:∀ k f st as,SInv k (f::st) as→Ex S n env ρ (scanW σ A K as (stackOf (f::st))) (execs body env) (.next ρ (scanW σ A K (f.put1 as) (stackOf (f.kids++st))))) :
  ∀ k st as,SInv k st as→WTurns S n env test body k ρ (scanW σ A K as (stackOf st)) (.next ρ (scanW σ A K (scanAll st as) [])):=by
 intro k
 induction k with
 | zero=>
  intro st as h
  have:=h.st
  have:st=[]:=List.length_eq_zero_iff.mp (by walk_at "o")
  subst this
  exact .stop (ht 0 [] as h)
 | succ k ih=>
  intro st as h
  cases st with
  | nil=>exact .stop (ht _ [] as h)
  | cons f st=>
   obtain ⟨k',e,h'⟩:=h.step
   cases e
   rw [scan_cons]
   exact .turn (ht _ _ _ h) (hb _ _ _ _ h) (ih _ _ h')
section
variable {B:Base} {R:Addr→Prop} {lo:∀ a,R a→B.h₁.get? a=none} {σ:Sto} {A K:Addr} {as l ys:List PyData} {x:PyData}
theorem put_comm {σ:Sto} {a b:Addr} {m m':Mut} (h:a≠b):put (put σ a m) b m'=put (put σ b m') a m:=by
 funext c;unfold put
 by_cases e:c=b
 ·rw [if_pos e,if_neg (fun q=>h (q.symm.trans e)),if_pos e]
 rw [if_neg e];split <;> rfl
theorem scan_stack:scanW σ A K as l K=some (.list l):=put_here
theorem scan_atoms (h:A≠K):scanW σ A K as l A=some (.list as):=(put_there h).trans put_here
theorem act_popK (k:R K) (hz:l.length≤1000000):Act (B.sys R lo) 0 [.v (.ref K)] (scanW σ A K as (l++[x])) (fun vs=>call (.builtin "list.pop") vs) (.d x) (scanW σ A K as l):=by
 have:=act_pop (lo:=lo) (σ:=scanW σ A K as (l++[x])) k scan_stack hz
 rwa [put_put] at this
theorem act_extK (k:R K) (hz:l.length+ys.length≤1000000):Act (B.sys R lo) 0 [.v (.ref K),.d (.tuple ys)] (scanW σ A K as l) (fun vs=>call (.builtin "list.extend") vs) (.d .none) (scanW σ A K as (l++ys)):=by
 have:=act_extend (lo:=lo) (σ:=scanW σ A K as l) k scan_stack hz
 rwa [put_put] at this
theorem act_appA (k:R A) (h:A≠K) (hz:as.length≤1000000):Act (B.sys R lo) 0 [.v (.ref A),.d x] (scanW σ A K as l) (fun vs=>call (.builtin "list.append") vs) (.d .none) (scanW σ A K (as++[x]) l):=by
 have:=act_append (lo:=lo) (σ:=scanW σ A K as l) (x:=x) k (scan_atoms h) hz
 rwa [put_comm (σ:=put σ A (.list as)) (Ne.symm h),put_put] at this
end
theorem Obj'.more {R:Addr→Prop} {σ:Sto} {x C dx a:Addr} {kvs:List (PyData × AV)} {m:Mut} (I:Obj' R σ x C dx kvs) (h:¬R a):Obj' (fun b=>R b∨b=a) (put σ a m) x C dx kvs:=
 ⟨.inl I.rx,(put_there (by rintro rfl;exact h I.rx)).trans I.ex,.inl I.rd,(put_there (by rintro rfl;exact h I.rd)).trans I.ed⟩
theorem Obj'.put {R:Addr→Prop} {σ:Sto} {x C dx a:Addr} {kvs:List (PyData × AV)} {m:Mut} (I:Obj' R σ x C dx kvs) (h1:x≠a) (h2:dx≠a):Obj' R (Nz.put σ a m) x C dx kvs:=
 ⟨I.rx,(put_there h1).trans I.ex,I.rd,(put_there h2).trans I.ed⟩
end
section
theorem blt_len_tuple {S:Sys} {xs:List PyData} (hz:xs.length≤1000000):Blt S "len" [.d (.tuple xs)] (.d (.int xs.length)):=by
 intro V A s vs Q E rm bs vk r h
 obtain ⟨v,rfl,r1⟩:=r.one
 obtain ⟨a,xa,rfl,na,ha,ra⟩:=Rd.isTuple r1
 have e:=ra.size
 refine PyProof.Rows.len_tuple ha (by walk_at "o") ?_
 rw [e]
 exact h _ s.heap _ (Grow.refl _ _) (.int _ _)
theorem ex_dsetP {B:Base} {R:Addr→Prop} {lo:∀ a,R a→B.h₁.get? a=none} {n:Nat} {env:Env} {ρ:List (Str × AV)} {σ:Sto} {a:Addr} {o i value:Expr} {pos' pos:Pos} {kvs:List (PyData × AV)} {k:PyData} {x:AV}
  (h1:Ev (B.sys R lo) n env ρ (put σ a (.dict kvs)) (eval value env) x (put σ a (.dict kvs))) (h2:Ev (B.sys R lo) n env ρ (put σ a (.dict kvs)) (eval o env) (.v (.ref a)) (put σ a (.dict kvs))) (h3:Ev (B.sys R lo) n env ρ (put σ a (.dict kvs)) (eval i env) (.d k) (put σ a (.dict kvs)))
  (ka:R a) (h6:KeyD 6 k) (hz:kvs.length≤100000) (hs:swapsWith value (some (.Subscript o i pos')) pos.line env=pure false:=by rfl) :
  Ex (B.sys R lo) n env ρ (put σ a (.dict kvs)) (exec (.Assign [.Subscript o i pos'] value pos) env) (.next ρ (put σ a (.dict (kvSet kvs k x)))):=by
 have:=ex_dset h1 h2 h3 ka put_here h6 hz hs
 rwa [put_put] at this
theorem swaps_yes {env:Env} {nm:List (Str × NameKind)} (f:Fn env nm) {elt:Expr} {gens:List Comprehension} {scope:Scope} {p p':Pos} {t:Str} {line:Nat} (hl:nm.lookup t=some .local) (hc:(p'.line == p.line && !(scope.names.any fun (n,k)=>n == t&&(k == .local||k == .cell)))=true) :
  swapsWith (.ListComp elt gens scope p) (some (.Name t p')) line env=pure true:=by
 have e1:env.blockKind=.function:=by unfold Env.blockKind;rw [f.kind];rfl
 have e2:=(f.at t).trans hl
 show pure (env.blockKind == .function&&env.kindOf t == some .local&&p'.line == p.line && !(scope.names.any fun (n,k)=>n == t&&(k == .local||k == .cell)))=_
 rw [e1,e2,Bool.and_assoc,hc];rfl
noncomputable def atomsOf (cl:List Int) (f:Fm):List PyData:=f.addAll (cl.map keyC)
noncomputable def freeOf (cl:List Int) (f:Fm):List PyData:=(atomsOf cl f).drop cl.length
noncomputable def bitAt (r p:Nat):Bool:=(((r:Nat):Int).fdiv (2 ^ ((p:Nat):Int).toNat)).fmod 2 == 1
noncomputable def valOf (cl:List Int) (free:List PyData) (r:Nat) (k:PyData):Bool:=
 match cl.find? fun c=>PyData.eqv (keyC c) k with
 | some c=>decide (c<0)
 | none=>bitAt r (free.findIdx fun y=>PyData.eqv y k)
noncomputable def sat (cl:List Int) (f:Fm) (r:Nat):Bool:=f.eval fun i=>valOf cl (freeOf cl f) r (spotU i)
noncomputable def tableOf (cl:List Int) (f:Fm):Str:=if 12<(atomsOf cl f).length then "bits" else if ((List.range (2 ^ (freeOf cl f).length)).any (sat cl f))=true then "bits" else ""
noncomputable def Fm.all (P:Nat→Prop):Fm→Prop
 | .atom i=>P i
 | .tt | .ff=>True
 | .not f=>f.all P
 | .or f g | .and f g | .iff f g | .xor f g=>f.all P∧g.all P
theorem Fm.all_mono {P Q:Nat→Prop} (h:∀ i,P i→Q i):∀ {f:Fm},f.all P→f.all Q
 | .atom i,k=>h i k
 | .tt,_ | .ff,_=>trivial
 | .not f,k=>Fm.all_mono (f:=f) h k
 | .or f g,k | .and f g,k | .iff f g,k | .xor f g,k=>⟨Fm.all_mono (f:=f) h k.1,Fm.all_mono (f:=g) h k.2⟩
theorem Fm.all_known {kvs:List (PyData × AV)} {v:Nat→Bool}:∀ {f:Fm},f.all (fun i=>i<5∧kvGet kvs (spotU i)=some (.d (.bool (v i))))→f.known kvs v
 | .atom i,k=>k
 | .tt,_ | .ff,_=>trivial
 | .not f,k=>Fm.all_known (f:=f) k
 | .or f g,k | .and f g,k | .iff f g,k | .xor f g,k=>⟨Fm.all_known (f:=f) k.1,Fm.all_known (f:=g) k.2⟩
structure Added (f:Fm) (as bs:List PyData):Prop where
 ext:∃ es,bs=as++es
 key:∀ x∈bs,KeyD 6 x
 nd:bs.Nodup
 all:f.all fun i=>i<5∧spotU i∈bs
theorem Added.two {f g h:Fm} {as bs cs:List PyData} (a:Added f as bs) (b:Added g bs cs) (e:h.all (fun i=>i<5∧spotU i∈cs)=(g.all (fun i=>i<5∧spotU i∈cs)∧f.all (fun i=>i<5∧spotU i∈cs))):Added h as cs:=by
 obtain ⟨e1,h1⟩:=a.ext
 obtain ⟨e2,h2⟩:=b.ext
 refine ⟨⟨e1++e2,by rw [h2,h1,List.append_assoc]⟩,b.key,b.nd,?_⟩
 rw [e]
 refine ⟨b.all,Fm.all_mono (fun i k=>⟨k.1,?_⟩) a.all⟩
 rw [h2];exact List.mem_append_left _ k.2
theorem addAll_spec:∀ {f:Fm},f.wf→∀ {as:List PyData},(∀ x∈as,KeyD 6 x)→as.Nodup→Added f as (f.addAll as)
 | .atom i,h,as,hk,hn=>by
  show Added (.atom i) as (if (as.any fun y=>PyData.eqv y (spotU i))=true then as else as++[spotU i])
  by_cases e:(as.any fun y=>PyData.eqv y (spotU i))=true
  ·rw [if_pos e]
   obtain ⟨y,hy,ey⟩:=List.any_eq_true.mp e
   have:=((hk y hy).eqv (spot_key h)).mp ey
   exact ⟨⟨[],by simp⟩,hk,hn,h,this▸hy⟩
  rw [if_neg e]
  refine ⟨⟨_,rfl⟩,fun x hx=>?_,?_,h,by simp⟩
  ·rcases List.mem_append.mp hx with hx | hx
   exact hk x hx
   rw [List.mem_singleton.mp hx];exact spot_key h
  rw [List.nodup_append]
  refine ⟨hn,by simp,fun x hx y hy=>?_⟩
  rw [List.mem_singleton.mp hy]
  rintro rfl
  exact e (List.any_eq_true.mpr ⟨_,hx,((spot_key h).eqv (spot_key h)).mpr rfl⟩)
 | .tt,_,as,hk,hn=>⟨⟨[],(List.append_nil as).symm⟩,hk,hn,trivial⟩
 | .ff,_,as,hk,hn=>⟨⟨[],(List.append_nil as).symm⟩,hk,hn,trivial⟩
 | .not f,h,as,hk,hn=>let a:=addAll_spec (f:=f) h hk hn;⟨a.ext,a.key,a.nd,a.all⟩
 | .or f g,h,as,hk,hn=>let a:=addAll_spec (f:=g) h.2 hk hn;a.two (addAll_spec (f:=f) h.1 a.key a.nd) rfl
 | .and f g,h,as,hk,hn=>let a:=addAll_spec (f:=g) h.2 hk hn;a.two (addAll_spec (f:=f) h.1 a.key a.nd) rfl
 | .iff f g,h,as,hk,hn=>let a:=addAll_spec (f:=g) h.2 hk hn;a.two (addAll_spec (f:=f) h.1 a.key a.nd) rfl
 | .xor f g,h,as,hk,hn=>let a:=addAll_spec (f:=g) h.2 hk hn;a.two (addAll_spec (f:=f) h.1 a.key a.nd) rfl
theorem cl_key {cl:List Int}:∀ x∈cl.map keyC,KeyD 6 x:=fun x hx=>by
 obtain ⟨c,_,rfl⟩:=List.mem_map.mp hx;exact .int _
theorem cl_nodup {cl:List Int} (h:(cl.map abs').Nodup):(cl.map keyC).Nodup:=by
 have:cl.map keyC=(cl.map abs').map PyData.int:=by rw [List.map_map];rfl
 rw [this]
 exact List.Pairwise.map _ (fun a b hab e=>hab (PyData.int.inj e)) h
theorem atoms_eq {cl:List Int} {f:Fm} (hf:f.wf) (hn:(cl.map abs').Nodup):atomsOf cl f=cl.map keyC++freeOf cl f:=by
 obtain ⟨es,e⟩:=(addAll_spec hf cl_key (cl_nodup hn)).ext
 unfold freeOf atomsOf
 rw [e,List.drop_left' (by simp)]
noncomputable def kv1 (cl:List Int):List (PyData × AV):=setAllKv keyC (fun c=>.d (.bool (decide (c<0)))) [] cl
noncomputable def stepKv (cl:List Int) (f:Fm) (acc:List (PyData × AV)) (r:Nat):List (PyData × AV):=setAllKv (fun p=>(freeOf cl f).getD p .none) (fun p=>.d (.bool (bitAt r p))) acc (List.range (freeOf cl f).length)
structure KInv (cl:List Int) (f:Fm) (m:Nat) (acc:List (PyData × AV)):Prop where
 key:∀ p∈acc,KeyD 6 p.1
 len:acc.length+m*12≤100000
 cl:∀ c∈cl,kvGet acc (keyC c)=some (.d (.bool (decide (c<0))))
theorem free_at {cl:List Int} {f:Fm} {p:Nat} (hp:p∈List.range (freeOf cl f).length):(freeOf cl f)[p]?=some ((freeOf cl f).getD p .none):=by
 have:=List.mem_range.mp hp
 rw [List.getD_eq_getElem?_getD,List.getElem?_eq_getElem this];rfl
theorem free_key {cl:List Int} {f:Fm} (hf:f.wf) (hn:(cl.map abs').Nodup):∀ x∈freeOf cl f,KeyD 6 x:=fun x hx=>
 (addAll_spec hf cl_key (cl_nodup hn)).key x (List.mem_of_mem_drop hx)
theorem getD_range {xs:List PyData}:(List.range xs.length).map (fun p=>xs.getD p .none)=xs:=by
 refine List.ext_getElem (by simp) fun i h1 h2=>?_
 simp [List.getD_eq_getElem?_getD,List.getElem?_eq_getElem h2]
theorem KInv.step {cl:List Int} {f:Fm} (hf:f.wf) (hn:(cl.map abs').Nodup) (h12:(freeOf cl f).length≤12) {m:Nat} {acc:List (PyData × AV)} {r:Nat} (h:KInv cl f (m+1) acc) :
  KInv cl f m (stepKv cl f acc r)∧f.known (stepKv cl f acc r) fun i=>valOf cl (freeOf cl f) r (spotU i):=by
 have A:=addAll_spec hf cl_key (cl_nodup hn)
 have nd:(cl.map keyC++freeOf cl f).Nodup:=by rw [← atoms_eq hf hn];exact A.nd
 have nd':=List.nodup_append.mp nd
 have fk:=free_key hf hn
 have keys:∀ p∈List.range (freeOf cl f).length,KeyD 6 ((freeOf cl f).getD p .none):=fun p hp=>fk _ (List.mem_of_getElem? (free_at hp))
 obtain ⟨a,b,c,d⟩:=setAllKv_spec (key:=fun p=>(freeOf cl f).getD p .none) (val:=fun p=>.d (.bool (bitAt r p))) keys h.key (by rw [getD_range];exact nd'.2.1)
 have clg:∀ c∈cl,kvGet (stepKv cl f acc r) (keyC c)=some (.d (.bool (decide (c<0)))):=fun c hc=>by
  refine (d (keyC c) (.int _) fun p hp e=>?_).trans (h.cl c hc)
  exact nd'.2.2 _ (List.mem_map.mpr ⟨c,hc,rfl⟩) _ (List.mem_of_getElem? (free_at hp)) e.symm
 refine ⟨⟨a,?_,clg⟩,Fm.all_known (Fm.all_mono (fun i k=>⟨k.1,?_⟩) A.all)⟩
 ·have:=h.len
  have b:(stepKv cl f acc r).length≤_:=b
  rw [List.length_range] at b
  walk_at "o"
 have hm:spotU i∈cl.map keyC++freeOf cl f:=by rw [← atoms_eq hf hn];exact k.2
 have sk:=spot_key k.1
 unfold valOf
 rcases List.mem_append.mp hm with hm | hm
 ·obtain ⟨c0,hc0,e0⟩:=List.mem_map.mp hm
  cases hfd:cl.find? fun c=>PyData.eqv (keyC c) (spotU i) with
  | some c1=>
   have h1:=List.find?_some hfd
   have h2:=List.mem_of_find?_eq_some hfd
   rw [← ((KeyD.int (n:=6) _).eqv sk).mp h1]
   exact clg c1 h2
  | none=>
   have:=List.find?_eq_none.mp hfd c0 hc0
   exact absurd (((KeyD.int (n:=6) _).eqv sk).mpr e0) this
 have hfd:(cl.find? fun c=>PyData.eqv (keyC c) (spotU i))=none:=List.find?_eq_none.mpr fun c hc e=>
  nd'.2.2 _ (List.mem_map.mpr ⟨c,hc,rfl⟩) _ hm (((KeyD.int (n:=6) _).eqv sk).mp e)
 rw [hfd]
 dsimp only
 have hlt:(freeOf cl f).findIdx (fun y=>PyData.eqv y (spotU i))<(freeOf cl f).length:=List.findIdx_lt_length_of_exists ⟨_,hm,(sk.eqv sk).mpr rfl⟩
 have hp:(freeOf cl f).findIdx (fun y=>PyData.eqv y (spotU i))∈List.range (freeOf cl f).length:=List.mem_range.mpr hlt
 have e1:=List.findIdx_getElem (w:=hlt)
 have e2:(freeOf cl f).getD ((freeOf cl f).findIdx fun y=>PyData.eqv y (spotU i)) .none=spotU i:=by
  rw [List.getD_eq_getElem?_getD,List.getElem?_eq_getElem hlt]
  exact ((fk _ (List.getElem_mem hlt)).eqv sk).mp e1
 have:=c _ hp
 rw [e2] at this
 exact this
theorem KInv.first {cl:List Int} {f:Fm} (hn:(cl.map abs').Nodup) (hc:cl.length≤15) {m:Nat} (hm:m≤4096):KInv cl f m (kv1 cl):=by
 obtain ⟨a,b,c,d⟩:=setAllKv_spec (kvs:=[]) (l:=cl) (key:=keyC) (val:=fun c=>.d (.bool (decide (c<0)))) (fun x _u=>.int _) (fun p hp=>by simp at hp) (cl_nodup hn)
 refine ⟨a,?_,c⟩
 have b:(kv1 cl).length≤_:=b
 rw [List.length_nil] at b
 walk_at "o"
noncomputable def searchAcc {α β:Type} (step:β→α→β) (p:α→Bool):List α→β→β
 | [],acc=>acc
 | r::l,acc=>if p r=true then step acc r else searchAcc step p l (step acc r)
theorem turns_searchAcc {S:Sys} {n:Nat} {env:Env} {ρ:List (Str × AV)} {x:Str} {body:List Stmt} {α β:Type} (it:α→PyData) (st:β→Sto) (step:β→α→β) (p:α→Bool) (c:AV) (Inv:Nat→β→Prop) (hu:(ρ.all fun p=>p.1 != x)=true):∀ (l:List α) (acc:β),Inv l.length acc →
  (∀ r∈l,∀ m acc,Inv (m+1) acc→Inv m (step acc r)∧(p r=false→Ex S n env ((x,.d (it r))::ρ) (st acc) (execs body env) (.next ρ (st (step acc r))))∧(p r=true→Ex S n env ((x,.d (it r))::ρ) (st acc) (execs body env) (.ret c (st (step acc r))))) →
  Turns S n env x body (l.map it) ρ (st acc) (if l.any p=true then .ret c (st (searchAcc step p l acc)) else .next ρ (st (searchAcc step p l acc)))
 | [],acc,_,_=>.nil
 | r::l,acc,hi,h=>by
  obtain ⟨h1,h2,h3⟩:=h r (.head _) l.length acc hi
  rw [List.any_cons]
  rw [searchAcc]
  cases hp:p r with
  | true=>rw [Bool.true_or,if_pos rfl,if_pos rfl];exact .ret (upd_new hu) (h3 hp)
  | false=>
   rw [Bool.false_or,if_neg Bool.false_ne_true (t:=step acc r)]
   exact .cons (upd_new hu) (h2 hp) (turns_searchAcc it st step p c Inv hu l _ h1 fun r hr=>h r (.tail _ hr))
variable {B:Base} {R:Addr→Prop} {lo:∀ a,R a→B.h₁.get? a=none} {σ:Sto}
theorem c_table (hK:(KZ B.w.params).In B.h₁) {J dJ bk tb:Addr} (I:Judge R σ J dJ bk tb) {cl:List Int} {f:Fm} (hf:f.wf) (hh:f.ht≤5) (hc:cl.length≤15) (hn:(cl.map abs').Nodup) :
  FS (B.sys R lo) 8 745 [.v (.ref J),.d (.tuple (cl.map .int)),.d f.dataU] σ (.d (.str (tableOf cl f))) σ:=by
 refine fs_def (names:=["self","some","meaning"]) hK ?h_1
 case h_1=>
  intro env f'
  change Ex _ _ _ [("self",_),("some",_),("meaning",_)] _ _ _
  refine' ex_promote (x:="atoms") (m:=.list (cl.map keyC)) (σ₁:=σ) (NB.nm (nb_comp (ρc:=[]) (by walk_at "f") ?hb ?cf ?it iter_tuple ?ct ?hz (swaps_yes (by walk_at "f") rfl rfl) (fun _u=>rfl))) (fun A na nA=>?rest)
  case hb=>exact (f'.toFn.at _).trans rfl
  case cf=>exact ⟨fun p hp hq=>by exfalso;revert p;decide,by decide,by decide,rfl,rfl,fun p hp=>by simp at hp⟩
  case it=>walk_at "n"
  case ct=>
   refine' ct_map PyData.int keyC fun r hr env f=>?_
   (with_reducible apply ev_callb);((with_reducible apply ev_blt);assumption;walk_at "f";rfl;k_is;exact bb_abs;decide;decide);walk_at "1";walk_at "n";exact evs_nil;rfl
   ·(with_reducible first | exact blt_abs | exact blt_sum | exact blt_min)
   rfl;rfl
  case hz=>simp;walk_at "o"
  case rest=>
   have eA:∀ b,R b→b≠A:=fun b hb e=>nA (e▸hb)
   have I1:=I.more (m:=.list (cl.map keyC)) nA
   refine' ⟨("atoms",.v (.ref A))::[("self",.v (.ref J)),("some",.d (.tuple (cl.map .int))),("meaning",.d f.dataU)],put σ A (.list (atomsOf cl f)),upd_new rfl,?r1,fun b hb=>(put_there (eA b hb)).symm⟩
   refine' ex_promote (x:="stack") (m:=.list [f.dataU]) (σ₁:=put σ A (.list (cl.map keyC))) (NB.nm (nb_plain (by walk_at "f") (by walk_at "d") (evn_list ?ev rfl) rfl)) (fun K nk nK=>?rest2)
   case ev=>
    walk_at "3";walk_at "n";exact evd_nil;rfl
   case rest2=>
    have eK:∀ b,(R b∨b=A)→b≠K:=fun b hb e=>nK (e▸hb)
    have AK:A≠K:=eK A (.inr rfl)
    have I2:=(I.more (m:=.list (atomsOf cl f)) nA).more (m:=.list ([]:List PyData)) nK
    have rK:(fun b=>(R b∨b=A)∨b=K) K:=.inr rfl
    have rA:(fun b=>(R b∨b=A)∨b=K) A:=.inl (.inr rfl)
    refine' ⟨("stack",.v (.ref K))::("atoms",.v (.ref A))::[("self",.v (.ref J)),("some",.d (.tuple (cl.map .int))),("meaning",.d f.dataU)],scanW σ A K (atomsOf cl f) [],upd_new rfl,?r2,fun b hb=>(put_there (eK b hb)).symm⟩
    have sz:=size_le (f:=f)
    have p64:2 ^ (f.ht+1)≤2 ^ 6:=Nat.pow_le_pow_right (by decide) (by walk_at "o")
    have inv0:SInv f.size [f] (cl.map keyC):=⟨by simp,by simpa using hf,cl_key,by simp;walk_at "o"⟩
    have key1:=atoms_eq hf hn
    walk_at "2"
    ·with_reducible apply ex_while
     refine' scan_turns (σ:=σ) (A:=A) (K:=K) (ρ:=("stack",.v (.ref K))::("atoms",.v (.ref A))::[("self",.v (.ref J)),("some",.d (.tuple (cl.map .int))),("meaning",.d f.dataU)]) ?ht ?hb f.size [f] (cl.map keyC) inv0
     case ht=>
      intro k st as hi
      have:=hi.st
      have:=hi.len
      walk_at "5";walk_at "4";(with_reducible apply ev_callbW);((with_reducible apply ev_blt);assumption;walk_at "f";rfl;k_is;exact bb_len;decide;decide);walk_at "1";walk_at "n";exact evs_nil;rfl;exact opw_fst (c:=.d (.int _)) rK scan_stack trivial (blt_len_list (by simp;walk_at "o"));rfl;rfl;exact ev_int;walk_at "c";(with_unfolding_all rfl)
      cases st <;> simp
     case hb=>
      intro k f0 st as hi
      have:=hi.st
      have:=hi.len
      have sl:st.length+1≤k:=hi.st
      cases f0 with
      | atom i=>
       have wf:i<5:=hi.wf _ (.head _)
       show Ex _ _ _ _ (scanW σ A K as ((Fm.atom i::st).map Fm.dataU).reverse) _ _
       rw [show ((Fm.atom i::st).map Fm.dataU).reverse=stackOf st++[.tuple [.str "atom",spotU i]] from List.reverse_cons ..]
       by_cases hin:(as.any fun y=>PyData.eqv y (spotU i))=true
       ·rw [show (Fm.atom i).put1 as=as from if_pos hin]
        show Ex _ _ _ _ _ _ (.next _ (scanW σ A K as (stackOf st)))
        with_reducible apply ex_sub
        ·walk_at "2"
         (with_reducible apply ex_assign);walk_at "f";walk_at "d";(with_reducible apply ev_methb);walk_at "n";exact meth_list rK scan_stack PySem.F.slot_list_pop rfl;exact evs_nil;exact act_popK rK (by simp;walk_at "o");rfl;rfl;rfl;walk_at "u";rfl;walk_at "2"
         ·with_reducible apply ex_if (b:=true)
          walk_at "5";walk_at "4";(with_reducible apply ev_sub);walk_at "n";exact ev_int;walk_at "s";exact ev_str;walk_at "c";(with_unfolding_all rfl);walk_at "t"
          ·intro _
           walk_at "2"
           ·with_reducible apply ex_if (b:=false)
            ·walk_at "5"
             (with_reducible apply tr_cmpW;apply ev_sub);walk_at "n";exact ev_int;walk_at "s";walk_at "n";exact opw_snd (c:=.d (.bool _)) rA (scan_atoms AK) trivial (cmp_notin_list (lay_all hi.key) (spot_can wf) (spot_depth wf));(with_unfolding_all rfl)
             rw [hin];rfl
            intro h;cases h
            intro _
            exact ex_nil
           exact ex_nil
          intro h;cases h
         exact ex_nil
        exact fun p hp=>List.mem_append_left (bs:=[_]) hp
       rw [show (Fm.atom i).put1 as=as++[spotU i] from if_neg hin]
       show Ex _ _ _ _ _ _ (.next _ (scanW σ A K (as++[spotU i]) (stackOf st)))
       with_reducible apply ex_sub
       ·walk_at "2"
        (with_reducible apply ex_assign);walk_at "f";walk_at "d";(with_reducible apply ev_methb);walk_at "n";exact meth_list rK scan_stack PySem.F.slot_list_pop rfl;exact evs_nil;exact act_popK rK (by simp;walk_at "o");rfl;rfl;rfl;walk_at "u";rfl;walk_at "2"
        ·with_reducible apply ex_if (b:=true)
         walk_at "5";walk_at "4";(with_reducible apply ev_sub);walk_at "n";exact ev_int;walk_at "s";exact ev_str;walk_at "c";(with_unfolding_all rfl);walk_at "t"
         ·intro _
          walk_at "2"
          ·with_reducible apply ex_if (b:=true)
           ·walk_at "5"
            (with_reducible apply tr_cmpW;apply ev_sub);walk_at "n";exact ev_int;walk_at "s";walk_at "n";exact opw_snd (c:=.d (.bool _)) rA (scan_atoms AK) trivial (cmp_notin_list (lay_all hi.key) (spot_can wf) (spot_depth wf));(with_unfolding_all rfl)
            simp [hin]
           ·intro _
            walk_at "2";(with_reducible apply ex_expr;apply ev_methb);walk_at "n";exact meth_list rA (scan_atoms AK) PySem.F.slot_list_append rfl;walk_at "1";(with_reducible apply ev_sub);walk_at "n";exact ev_int;walk_at "s";exact evs_nil;rfl;exact act_appA rA AK (by walk_at "o");rfl;rfl;rfl;exact Fn.quiet (by walk_at "f");rfl;exact ex_nil
           intro h;cases h
          exact ex_nil
         intro h;cases h
        exact ex_nil
       exact fun p hp=>List.mem_append_left (bs:=[_]) hp
      | tt=>
       show Ex _ _ _ _ (scanW σ A K as ((Fm.tt::st).map Fm.dataU).reverse) _ _
       rw [show ((Fm.tt::st).map Fm.dataU).reverse=stackOf st++[.tuple [.str "true"]] from List.reverse_cons ..]
       show Ex _ _ _ _ _ _ (.next _ (scanW σ A K as (stackOf ((Fm.tt).kids++st))))
       rw [show stackOf ((Fm.tt).kids++st)=stackOf st++[] by simp [Fm.kids]]
       with_reducible apply ex_sub
       ·walk_at "2"
        (with_reducible apply ex_assign);walk_at "f";walk_at "d";(with_reducible apply ev_methb);walk_at "n";exact meth_list rK scan_stack PySem.F.slot_list_pop rfl;exact evs_nil;exact act_popK rK (by simp;walk_at "o");rfl;rfl;rfl;walk_at "u";rfl;walk_at "2"
        ·with_reducible apply ex_if (b:=false)
         walk_at "5";walk_at "4";(with_reducible apply ev_sub);walk_at "n";exact ev_int;walk_at "s";exact ev_str;walk_at "c";(with_unfolding_all rfl);walk_at "t";intro h;cases h
         intro _
         walk_at "2"
         ·with_reducible apply ex_expr
          ·with_reducible apply ev_methb
           walk_at "n";exact meth_list rK scan_stack PySem.F.slot_list_extend rfl
           ·walk_at "1"
            ·with_reducible apply ev_tail
             walk_at "n";exact ev_int
             ·simp
             simp
            exact evs_nil;rfl
           exact act_extK rK (by simp;walk_at "o");rfl;rfl;rfl
          exact Fn.quiet (by walk_at "f");rfl
         exact ex_nil
        exact ex_nil
       exact fun p hp=>List.mem_append_left (bs:=[_]) hp
      | ff=>
       show Ex _ _ _ _ (scanW σ A K as ((Fm.ff::st).map Fm.dataU).reverse) _ _
       rw [show ((Fm.ff::st).map Fm.dataU).reverse=stackOf st++[.tuple [.str "false"]] from List.reverse_cons ..]
       show Ex _ _ _ _ _ _ (.next _ (scanW σ A K as (stackOf ((Fm.ff).kids++st))))
       rw [show stackOf ((Fm.ff).kids++st)=stackOf st++[] by simp [Fm.kids]]
       with_reducible apply ex_sub
       ·walk_at "2"
        (with_reducible apply ex_assign);walk_at "f";walk_at "d";(with_reducible apply ev_methb);walk_at "n";exact meth_list rK scan_stack PySem.F.slot_list_pop rfl;exact evs_nil;exact act_popK rK (by simp;walk_at "o");rfl;rfl;rfl;walk_at "u";rfl;walk_at "2"
        ·with_reducible apply ex_if (b:=false)
         walk_at "5";walk_at "4";(with_reducible apply ev_sub);walk_at "n";exact ev_int;walk_at "s";exact ev_str;walk_at "c";(with_unfolding_all rfl);walk_at "t";intro h;cases h
         intro _
         walk_at "2"
         ·with_reducible apply ex_expr
          ·with_reducible apply ev_methb
           walk_at "n";exact meth_list rK scan_stack PySem.F.slot_list_extend rfl
           ·walk_at "1"
            ·with_reducible apply ev_tail
             walk_at "n";exact ev_int
             ·simp
             simp
            exact evs_nil;rfl
           exact act_extK rK (by simp;walk_at "o");rfl;rfl;rfl
          exact Fn.quiet (by walk_at "f");rfl
         exact ex_nil
        exact ex_nil
       exact fun p hp=>List.mem_append_left (bs:=[_]) hp
      | not g=>
       show Ex _ _ _ _ (scanW σ A K as ((Fm.not g::st).map Fm.dataU).reverse) _ _
       rw [show ((Fm.not g::st).map Fm.dataU).reverse=stackOf st++[.tuple [.str "not",g.dataU]] from List.reverse_cons ..]
       show Ex _ _ _ _ _ _ (.next _ (scanW σ A K as (stackOf ((Fm.not g).kids++st))))
       rw [show stackOf ((Fm.not g).kids++st)=stackOf st++[g.dataU] by simp [Fm.kids]]
       with_reducible apply ex_sub
       ·walk_at "2"
        (with_reducible apply ex_assign);walk_at "f";walk_at "d";(with_reducible apply ev_methb);walk_at "n";exact meth_list rK scan_stack PySem.F.slot_list_pop rfl;exact evs_nil;exact act_popK rK (by simp;walk_at "o");rfl;rfl;rfl;walk_at "u";rfl;walk_at "2"
        ·with_reducible apply ex_if (b:=false)
         walk_at "5";walk_at "4";(with_reducible apply ev_sub);walk_at "n";exact ev_int;walk_at "s";exact ev_str;walk_at "c";(with_unfolding_all rfl);walk_at "t";intro h;cases h
         intro _
         walk_at "2"
         ·with_reducible apply ex_expr
          ·with_reducible apply ev_methb
           walk_at "n";exact meth_list rK scan_stack PySem.F.slot_list_extend rfl
           ·walk_at "1"
            ·with_reducible apply ev_tail
             walk_at "n";exact ev_int
             ·simp
             simp
            exact evs_nil;rfl
           exact act_extK rK (by simp;walk_at "o");rfl;rfl;rfl
          exact Fn.quiet (by walk_at "f");rfl
         exact ex_nil
        exact ex_nil
       exact fun p hp=>List.mem_append_left (bs:=[_]) hp
      | or g h=>
       show Ex _ _ _ _ (scanW σ A K as ((Fm.or g h::st).map Fm.dataU).reverse) _ _
       rw [show ((Fm.or g h::st).map Fm.dataU).reverse=stackOf st++[.tuple [.str "or",g.dataU,h.dataU]] from List.reverse_cons ..]
       show Ex _ _ _ _ _ _ (.next _ (scanW σ A K as (stackOf ((Fm.or g h).kids++st))))
       rw [show stackOf ((Fm.or g h).kids++st)=stackOf st++[g.dataU,h.dataU] by simp [Fm.kids]]
       with_reducible apply ex_sub
       ·walk_at "2"
        (with_reducible apply ex_assign);walk_at "f";walk_at "d";(with_reducible apply ev_methb);walk_at "n";exact meth_list rK scan_stack PySem.F.slot_list_pop rfl;exact evs_nil;exact act_popK rK (by simp;walk_at "o");rfl;rfl;rfl;walk_at "u";rfl;walk_at "2"
        ·with_reducible apply ex_if (b:=false)
         walk_at "5";walk_at "4";(with_reducible apply ev_sub);walk_at "n";exact ev_int;walk_at "s";exact ev_str;walk_at "c";(with_unfolding_all rfl);walk_at "t";intro h;cases h
         intro _
         walk_at "2"
         ·with_reducible apply ex_expr
          ·with_reducible apply ev_methb
           walk_at "n";exact meth_list rK scan_stack PySem.F.slot_list_extend rfl
           ·walk_at "1"
            ·with_reducible apply ev_tail
             walk_at "n";exact ev_int
             ·simp
             simp
            exact evs_nil;rfl
           exact act_extK rK (by simp;walk_at "o");rfl;rfl;rfl
          exact Fn.quiet (by walk_at "f");rfl
         exact ex_nil
        exact ex_nil
       exact fun p hp=>List.mem_append_left (bs:=[_]) hp
      | and g h=>
       show Ex _ _ _ _ (scanW σ A K as ((Fm.and g h::st).map Fm.dataU).reverse) _ _
       rw [show ((Fm.and g h::st).map Fm.dataU).reverse=stackOf st++[.tuple [.str "and",g.dataU,h.dataU]] from List.reverse_cons ..]
       show Ex _ _ _ _ _ _ (.next _ (scanW σ A K as (stackOf ((Fm.and g h).kids++st))))
       rw [show stackOf ((Fm.and g h).kids++st)=stackOf st++[g.dataU,h.dataU] by simp [Fm.kids]]
       with_reducible apply ex_sub
       ·walk_at "2"
        (with_reducible apply ex_assign);walk_at "f";walk_at "d";(with_reducible apply ev_methb);walk_at "n";exact meth_list rK scan_stack PySem.F.slot_list_pop rfl;exact evs_nil;exact act_popK rK (by simp;walk_at "o");rfl;rfl;rfl;walk_at "u";rfl;walk_at "2"
        ·with_reducible apply ex_if (b:=false)
         walk_at "5";walk_at "4";(with_reducible apply ev_sub);walk_at "n";exact ev_int;walk_at "s";exact ev_str;walk_at "c";(with_unfolding_all rfl);walk_at "t";intro h;cases h
         intro _
         walk_at "2"
         ·with_reducible apply ex_expr
          ·with_reducible apply ev_methb
           walk_at "n";exact meth_list rK scan_stack PySem.F.slot_list_extend rfl
           ·walk_at "1"
            ·with_reducible apply ev_tail
             walk_at "n";exact ev_int
             ·simp
             simp
            exact evs_nil;rfl
           exact act_extK rK (by simp;walk_at "o");rfl;rfl;rfl
          exact Fn.quiet (by walk_at "f");rfl
         exact ex_nil
        exact ex_nil
       exact fun p hp=>List.mem_append_left (bs:=[_]) hp
      | iff g h=>
       show Ex _ _ _ _ (scanW σ A K as ((Fm.iff g h::st).map Fm.dataU).reverse) _ _
       rw [show ((Fm.iff g h::st).map Fm.dataU).reverse=stackOf st++[.tuple [.str "iff",g.dataU,h.dataU]] from List.reverse_cons ..]
       show Ex _ _ _ _ _ _ (.next _ (scanW σ A K as (stackOf ((Fm.iff g h).kids++st))))
       rw [show stackOf ((Fm.iff g h).kids++st)=stackOf st++[g.dataU,h.dataU] by simp [Fm.kids]]
       with_reducible apply ex_sub
       ·walk_at "2"
        (with_reducible apply ex_assign);walk_at "f";walk_at "d";(with_reducible apply ev_methb);walk_at "n";exact meth_list rK scan_stack PySem.F.slot_list_pop rfl;exact evs_nil;exact act_popK rK (by simp;walk_at "o");rfl;rfl;rfl;walk_at "u";rfl;walk_at "2"
        ·with_reducible apply ex_if (b:=false)
         walk_at "5";walk_at "4";(with_reducible apply ev_sub);walk_at "n";exact ev_int;walk_at "s";exact ev_str;walk_at "c";(with_unfolding_all rfl);walk_at "t";intro h;cases h
         intro _
         walk_at "2"
         ·with_reducible apply ex_expr
          ·with_reducible apply ev_methb
           walk_at "n";exact meth_list rK scan_stack PySem.F.slot_list_extend rfl
           ·walk_at "1"
            ·with_reducible apply ev_tail
             walk_at "n";exact ev_int
             ·simp
             simp
            exact evs_nil;rfl
           exact act_extK rK (by simp;walk_at "o");rfl;rfl;rfl
          exact Fn.quiet (by walk_at "f");rfl
         exact ex_nil
        exact ex_nil
       exact fun p hp=>List.mem_append_left (bs:=[_]) hp
      | xor g h=>
       show Ex _ _ _ _ (scanW σ A K as ((Fm.xor g h::st).map Fm.dataU).reverse) _ _
       rw [show ((Fm.xor g h::st).map Fm.dataU).reverse=stackOf st++[.tuple [.str "xor",g.dataU,h.dataU]] from List.reverse_cons ..]
       show Ex _ _ _ _ _ _ (.next _ (scanW σ A K as (stackOf ((Fm.xor g h).kids++st))))
       rw [show stackOf ((Fm.xor g h).kids++st)=stackOf st++[g.dataU,h.dataU] by simp [Fm.kids]]
       with_reducible apply ex_sub
       ·walk_at "2"
        (with_reducible apply ex_assign);walk_at "f";walk_at "d";(with_reducible apply ev_methb);walk_at "n";exact meth_list rK scan_stack PySem.F.slot_list_pop rfl;exact evs_nil;exact act_popK rK (by simp;walk_at "o");rfl;rfl;rfl;walk_at "u";rfl;walk_at "2"
        ·with_reducible apply ex_if (b:=false)
         walk_at "5";walk_at "4";(with_reducible apply ev_sub);walk_at "n";exact ev_int;walk_at "s";exact ev_str;walk_at "c";(with_unfolding_all rfl);walk_at "t";intro h;cases h
         intro _
         walk_at "2"
         ·with_reducible apply ex_expr
          ·with_reducible apply ev_methb
           walk_at "n";exact meth_list rK scan_stack PySem.F.slot_list_extend rfl
           ·walk_at "1"
            ·with_reducible apply ev_tail
             walk_at "n";exact ev_int
             ·simp
             simp
            exact evs_nil;rfl
           exact act_extK rK (by simp;walk_at "o");rfl;rfl;rfl
          exact Fn.quiet (by walk_at "f");rfl
         exact ex_nil
        exact ex_nil
       exact fun p hp=>List.mem_append_left (bs:=[_]) hp
    rw [show scanAll [f] (cl.map keyC)=atomsOf cl f from rfl]
    have atl:(atomsOf cl f).length≤cl.length+f.size:=by have:=addAll_len (f:=f) (as:=cl.map keyC);rwa [List.length_map] at this
    by_cases h12:12<(atomsOf cl f).length
    ·rw [show tableOf cl f = "bits" from if_pos h12]
     walk_at "6";(with_reducible apply ex_if (b:=true))
     ·walk_at "5"
      walk_at "4";(with_reducible apply ev_callbW);((with_reducible apply ev_blt);assumption;walk_at "f";rfl;k_is;exact bb_len;decide;decide);walk_at "1";walk_at "n";exact evs_nil;rfl;exact opw_fst (c:=.d (.int _)) rA (scan_atoms AK) trivial (blt_len_list (by walk_at "o"));rfl;rfl;((with_reducible apply ev_globi);assumption;walk_at "f";rfl;k_is;decide);walk_at "c";(with_unfolding_all rfl)
      simp;walk_at "o"
     ·intro _
      walk_at "6";(with_reducible apply ex_ret);exact ev_str
     intro h;cases h
    have fl:(freeOf cl f).length≤12:=by have:=congrArg List.length key1;simp at this;walk_at "o"
    rw [show tableOf cl f=(if ((List.range (2 ^ (freeOf cl f).length)).any (sat cl f))=true then "bits" else "" : Str) from if_neg h12]
    walk_at "2"
    ·with_reducible apply ex_if (b:=false)
     ·walk_at "5"
      walk_at "4";(with_reducible apply ev_callbW);((with_reducible apply ev_blt);assumption;walk_at "f";rfl;k_is;exact bb_len;decide;decide);walk_at "1";walk_at "n";exact evs_nil;rfl;exact opw_fst (c:=.d (.int _)) rA (scan_atoms AK) trivial (blt_len_list (by walk_at "o"));rfl;rfl;((with_reducible apply ev_globi);assumption;walk_at "f";rfl;k_is;decide);walk_at "c";(with_unfolding_all rfl)
      simp;walk_at "o"
     intro h;cases h
     intro _
     exact ex_nil
    refine' ex_promote (x:="world") (m:=.dict []) (σ₁:=scanW σ A K (atomsOf cl f) []) (nm_dict (by walk_at "f") (by walk_at "d") rfl) (fun W nw nW=>?rest3)
    have eW:∀ b,((R b∨b=A)∨b=K)→b≠W:=fun b hb e=>nW (e▸hb)
    have rW:(fun b=>((R b∨b=A)∨b=K)∨b=W) W:=.inr rfl
    have rA3:(fun b=>((R b∨b=A)∨b=K)∨b=W) A:=.inl rA
    have p12:2 ^ (freeOf cl f).length≤2 ^ 12:=Nat.pow_le_pow_right (by decide) fl
    refine' ⟨("world",.v (.ref W))::("stack",.v (.ref K))::("atoms",.v (.ref A))::[("self",.v (.ref J)),("some",.d (.tuple (cl.map .int))),("meaning",.d f.dataU)],put (scanW σ A K (atomsOf cl f) []) W (.dict (searchAcc (stepKv cl f) (sat cl f) (List.range (2 ^ (freeOf cl f).length)) (kv1 cl))),upd_new rfl,?r3,fun b hb=>(put_there (eW b hb)).symm⟩
    have atW:∀ m,put (scanW σ A K (atomsOf cl f) []) W m A=some (.list (atomsOf cl f)):=fun m=>(put_there (eW A rA)).trans (scan_atoms AK)
    walk_at "2"
    ·with_reducible apply ex_for
     walk_at "f";walk_at "d";walk_at "n";exact iter_tuple
     ·refine' turns_fold (ρ:=("world",.v (.ref W))::("stack",.v (.ref K))::("atoms",.v (.ref A))::[("self",.v (.ref J)),("some",.d (.tuple (cl.map .int))),("meaning",.d f.dataU)]) PyData.int (fun acc=>put (scanW σ A K (atomsOf cl f) []) W (.dict acc)) (fun acc c=>kvSet acc (keyC c) (.d (.bool (decide (c<0))))) (fun m acc=>acc.length+m≤100000) rfl cl [] (by simp;walk_at "o") (fun c hc' m acc hi=>⟨by have:=kvSet_len (kvs:=acc) (k:=keyC c) (v:=.d (.bool (decide (c<0))));walk_at "o",?_⟩)
      with_reducible apply ex_sub
      ·walk_at "2"
       ·with_reducible apply ex_dsetP
        (with_reducible apply ev_cmp);walk_at "n";exact ev_int;walk_at "c";(with_unfolding_all rfl);walk_at "n"
        ·with_reducible apply ev_callb
         ((with_reducible apply ev_blt);assumption;walk_at "f";rfl;k_is;exact bb_abs;decide;decide);walk_at "1";walk_at "n";exact evs_nil;rfl
         ·(with_reducible first | exact blt_abs | exact blt_sum | exact blt_min)
         rfl;rfl
        exact rW;exact KeyD.int _
        ·walk_at "o"
        rfl
       exact ex_nil
      exact fun p hp=>List.mem_cons_of_mem _ hp
     exact fun _u=>rfl
    show Ex _ _ _ _ (put (scanW σ A K (atomsOf cl f) []) W (.dict (kv1 cl))) _ _
    walk_at "2"
    ·with_reducible apply ex_assign
     walk_at "f";walk_at "d"
     ·with_reducible apply ev_is (b:=.d (.list (freeOf cl f)))
      ·with_reducible apply ev_fromW
       walk_at "n";(with_reducible apply ev_callb);((with_reducible apply ev_blt);assumption;walk_at "f";rfl;k_is;exact bb_len;decide;decide);walk_at "1";walk_at "n";exact evs_nil;rfl;exact blt_len_tuple (by simp;walk_at "o");rfl;rfl;exact rA3;exact atW _
       walk_at "o"
      rw [List.length_map];rfl
     exact upd_new rfl;rfl
    have I3:∀ acc,Judge (fun b=>((R b∨b=A)∨b=K)∨b=W) (put (scanW σ A K (atomsOf cl f) []) W (.dict acc)) J dJ bk tb:=fun acc=>I2.more nW
    by_cases hany:((List.range (2 ^ (freeOf cl f).length)).any (sat cl f))=true
    ·rw [if_pos hany]
     walk_at "6";(with_reducible apply ex_is)
     ·with_reducible apply ex_for
      walk_at "f";walk_at "d"
      ·with_reducible apply ev_callt
       ((with_reducible apply ev_blt);assumption;walk_at "f";rfl;k_is;exact bb_range;decide;decide)
       ·walk_at "1"
        ·with_reducible apply ev_is
         (with_reducible apply ev_bin);exact ev_int;(with_reducible apply ev_callb);((with_reducible apply ev_blt);assumption;walk_at "f";rfl;k_is;exact bb_len;decide;decide);walk_at "1";walk_at "n";exact evs_nil;rfl;exact blt_len_list (by walk_at "o");rfl;rfl;walk_at "b"
         rw [Int.toNat_natCast,Int.one_mul]
        exact evs_nil;rfl
       exact typ_range (k:=2 ^ (freeOf cl f).length);rfl;rfl
      exact iter_range (by walk_at "o")
      ·refine' turns_searchAcc (ρ:=("free",.d (.list (freeOf cl f)))::("world",.v (.ref W))::("stack",.v (.ref K))::("atoms",.v (.ref A))::[("self",.v (.ref J)),("some",.d (.tuple (cl.map .int))),("meaning",.d f.dataU)]) (fun i=>PyData.int (i:Nat)) (fun acc=>put (scanW σ A K (atomsOf cl f) []) W (.dict acc)) (stepKv cl f) (sat cl f) (.d (.str "bits")) (KInv cl f) rfl (List.range (2 ^ (freeOf cl f).length)) (kv1 cl) (KInv.first hn hc (by simp;walk_at "o")) (fun r hr m acc hi=>?_)
       obtain ⟨hi1,kn⟩:=KInv.step hf hn fl (r:=r) hi
       refine' ⟨hi1,fun hp=>?_,fun hp=>?_⟩
       ·with_reducible apply ex_sub
        ·walk_at "2"
         ·with_reducible apply ex_for
          walk_at "f";walk_at "d";(with_reducible apply ev_callt);((with_reducible apply ev_blt);assumption;walk_at "f";rfl;k_is;exact bb_range;decide;decide);walk_at "1";(with_reducible apply ev_callb);((with_reducible apply ev_blt);assumption;walk_at "f";rfl;k_is;exact bb_len;decide;decide);walk_at "1";walk_at "n";exact evs_nil;rfl;exact blt_len_list (by walk_at "o");rfl;rfl;exact evs_nil;rfl;exact typ_range;rfl;rfl;exact iter_range (by walk_at "o")
          ·refine' turns_fold (ρ:=("number",.d (.int ((r:Nat):Int)))::("free",.d (.list (freeOf cl f)))::("world",.v (.ref W))::("stack",.v (.ref K))::("atoms",.v (.ref A))::[("self",.v (.ref J)),("some",.d (.tuple (cl.map .int))),("meaning",.d f.dataU)]) (fun i=>PyData.int (i:Nat)) (fun acc=>put (scanW σ A K (atomsOf cl f) []) W (.dict acc)) (fun acc p=>kvSet acc ((freeOf cl f).getD p .none) (.d (.bool (bitAt r p)))) (fun m acc=>acc.length+m≤100000) rfl (List.range (freeOf cl f).length) acc (by have:=hi.len;simp;walk_at "o") (fun p hp m acc hi=>⟨by have:=kvSet_len (kvs:=acc) (k:=(freeOf cl f).getD p .none) (v:=.d (.bool (bitAt r p)));walk_at "o",?_⟩)
           have hpl:=List.mem_range.mp hp
           with_reducible apply ex_sub
           ·walk_at "2"
            ·with_reducible apply ex_dsetP
             (with_reducible apply ev_cmp;apply ev_bin;apply ev_bin);walk_at "n";walk_at "n";walk_at "b";exact ev_int;walk_at "b";exact ev_int;walk_at "c";(with_unfolding_all rfl);walk_at "n";(with_reducible apply ev_sub);walk_at "n";walk_at "n";exact sub_list (by walk_at "o") (by walk_at "o") (by walk_at "o") (by rw [show placeOf ((p:Nat):Int) (freeOf cl f).length=p from if_neg (by walk_at "o")];exact free_at hp);exact rW;exact free_key hf hn _ (List.mem_of_getElem? (free_at hp))
             ·walk_at "o"
             rfl
            exact ex_nil
           exact fun p hp=>List.mem_cons_of_mem _ hp
          exact fun _u=>rfl
         show Ex _ _ _ _ (put (scanW σ A K (atomsOf cl f) []) W (.dict (stepKv cl f acc r))) _ _
         walk_at "2"
         ·with_reducible apply ex_if (b:=false)
          walk_at "5";(with_reducible apply tr_val;apply ev_methd);assumption;walk_at "n";exact I3 _;rfl;exact judge_off (by decide +kernel);k_is;k_is;k_is;k_is;rfl;walk_at "1";walk_at "n";walk_at "1";walk_at "n";exact evs_nil;rfl;rfl;exact c_holds hK (I3 _) rW put_here f kn;walk_at "k";rfl;rfl;rfl;exact hp;intro h;cases h
          intro _
          exact ex_nil
         exact ex_nil
        exact fun p hp=>List.mem_cons_of_mem _ hp
       walk_at "2"
       ·with_reducible apply ex_for
        walk_at "f";walk_at "d";(with_reducible apply ev_callt);((with_reducible apply ev_blt);assumption;walk_at "f";rfl;k_is;exact bb_range;decide;decide);walk_at "1";(with_reducible apply ev_callb);((with_reducible apply ev_blt);assumption;walk_at "f";rfl;k_is;exact bb_len;decide;decide);walk_at "1";walk_at "n";exact evs_nil;rfl;exact blt_len_list (by walk_at "o");rfl;rfl;exact evs_nil;rfl;exact typ_range;rfl;rfl;exact iter_range (by walk_at "o")
        ·refine' turns_fold (ρ:=("number",.d (.int ((r:Nat):Int)))::("free",.d (.list (freeOf cl f)))::("world",.v (.ref W))::("stack",.v (.ref K))::("atoms",.v (.ref A))::[("self",.v (.ref J)),("some",.d (.tuple (cl.map .int))),("meaning",.d f.dataU)]) (fun i=>PyData.int (i:Nat)) (fun acc=>put (scanW σ A K (atomsOf cl f) []) W (.dict acc)) (fun acc p=>kvSet acc ((freeOf cl f).getD p .none) (.d (.bool (bitAt r p)))) (fun m acc=>acc.length+m≤100000) rfl (List.range (freeOf cl f).length) acc (by have:=hi.len;simp;walk_at "o") (fun p hp m acc hi=>⟨by have:=kvSet_len (kvs:=acc) (k:=(freeOf cl f).getD p .none) (v:=.d (.bool (bitAt r p)));walk_at "o",?_⟩)
         have hpl:=List.mem_range.mp hp
         with_reducible apply ex_sub
         ·walk_at "2"
          ·with_reducible apply ex_dsetP
           (with_reducible apply ev_cmp;apply ev_bin;apply ev_bin);walk_at "n";walk_at "n";walk_at "b";exact ev_int;walk_at "b";exact ev_int;walk_at "c";(with_unfolding_all rfl);walk_at "n";(with_reducible apply ev_sub);walk_at "n";walk_at "n";exact sub_list (by walk_at "o") (by walk_at "o") (by walk_at "o") (by rw [show placeOf ((p:Nat):Int) (freeOf cl f).length=p from if_neg (by walk_at "o")];exact free_at hp);exact rW;exact free_key hf hn _ (List.mem_of_getElem? (free_at hp))
           ·walk_at "o"
           rfl
          exact ex_nil
         exact fun p hp=>List.mem_cons_of_mem _ hp
        exact fun _u=>rfl
       show Ex _ _ _ _ (put (scanW σ A K (atomsOf cl f) []) W (.dict (stepKv cl f acc r))) _ _
       walk_at "6";(with_reducible apply ex_if (b:=true));walk_at "5";(with_reducible apply tr_val;apply ev_methd);assumption;walk_at "n";exact I3 _;rfl;exact judge_off (by decide +kernel);k_is;k_is;k_is;k_is;rfl;walk_at "1";walk_at "n";walk_at "1";walk_at "n";exact evs_nil;rfl;rfl;exact c_holds hK (I3 _) rW put_here f kn;walk_at "k";rfl;rfl;rfl;exact hp
       ·intro _
        walk_at "6";(with_reducible apply ex_ret);exact ev_str
       intro h;cases h
      exact fun _u=>rfl
     exact if_pos hany
    rw [if_neg hany]
    walk_at "2"
    ·with_reducible apply ex_is
     ·with_reducible apply ex_for
      walk_at "f";walk_at "d"
      ·with_reducible apply ev_callt
       ((with_reducible apply ev_blt);assumption;walk_at "f";rfl;k_is;exact bb_range;decide;decide)
       ·walk_at "1"
        ·with_reducible apply ev_is
         (with_reducible apply ev_bin);exact ev_int;(with_reducible apply ev_callb);((with_reducible apply ev_blt);assumption;walk_at "f";rfl;k_is;exact bb_len;decide;decide);walk_at "1";walk_at "n";exact evs_nil;rfl;exact blt_len_list (by walk_at "o");rfl;rfl;walk_at "b"
         rw [Int.toNat_natCast,Int.one_mul]
        exact evs_nil;rfl
       exact typ_range (k:=2 ^ (freeOf cl f).length);rfl;rfl
      exact iter_range (by walk_at "o")
      ·refine' turns_searchAcc (ρ:=("free",.d (.list (freeOf cl f)))::("world",.v (.ref W))::("stack",.v (.ref K))::("atoms",.v (.ref A))::[("self",.v (.ref J)),("some",.d (.tuple (cl.map .int))),("meaning",.d f.dataU)]) (fun i=>PyData.int (i:Nat)) (fun acc=>put (scanW σ A K (atomsOf cl f) []) W (.dict acc)) (stepKv cl f) (sat cl f) (.d (.str "bits")) (KInv cl f) rfl (List.range (2 ^ (freeOf cl f).length)) (kv1 cl) (KInv.first hn hc (by simp;walk_at "o")) (fun r hr m acc hi=>?_)
       obtain ⟨hi1,kn⟩:=KInv.step hf hn fl (r:=r) hi
       refine' ⟨hi1,fun hp=>?_,fun hp=>?_⟩
       ·with_reducible apply ex_sub
        ·walk_at "2"
         ·with_reducible apply ex_for
          walk_at "f";walk_at "d";(with_reducible apply ev_callt);((with_reducible apply ev_blt);assumption;walk_at "f";rfl;k_is;exact bb_range;decide;decide);walk_at "1";(with_reducible apply ev_callb);((with_reducible apply ev_blt);assumption;walk_at "f";rfl;k_is;exact bb_len;decide;decide);walk_at "1";walk_at "n";exact evs_nil;rfl;exact blt_len_list (by walk_at "o");rfl;rfl;exact evs_nil;rfl;exact typ_range;rfl;rfl;exact iter_range (by walk_at "o")
          ·refine' turns_fold (ρ:=("number",.d (.int ((r:Nat):Int)))::("free",.d (.list (freeOf cl f)))::("world",.v (.ref W))::("stack",.v (.ref K))::("atoms",.v (.ref A))::[("self",.v (.ref J)),("some",.d (.tuple (cl.map .int))),("meaning",.d f.dataU)]) (fun i=>PyData.int (i:Nat)) (fun acc=>put (scanW σ A K (atomsOf cl f) []) W (.dict acc)) (fun acc p=>kvSet acc ((freeOf cl f).getD p .none) (.d (.bool (bitAt r p)))) (fun m acc=>acc.length+m≤100000) rfl (List.range (freeOf cl f).length) acc (by have:=hi.len;simp;walk_at "o") (fun p hp m acc hi=>⟨by have:=kvSet_len (kvs:=acc) (k:=(freeOf cl f).getD p .none) (v:=.d (.bool (bitAt r p)));walk_at "o",?_⟩)
           have hpl:=List.mem_range.mp hp
           with_reducible apply ex_sub
           ·walk_at "2"
            ·with_reducible apply ex_dsetP
             (with_reducible apply ev_cmp;apply ev_bin;apply ev_bin);walk_at "n";walk_at "n";walk_at "b";exact ev_int;walk_at "b";exact ev_int;walk_at "c";(with_unfolding_all rfl);walk_at "n";(with_reducible apply ev_sub);walk_at "n";walk_at "n";exact sub_list (by walk_at "o") (by walk_at "o") (by walk_at "o") (by rw [show placeOf ((p:Nat):Int) (freeOf cl f).length=p from if_neg (by walk_at "o")];exact free_at hp);exact rW;exact free_key hf hn _ (List.mem_of_getElem? (free_at hp))
             ·walk_at "o"
             rfl
            exact ex_nil
           exact fun p hp=>List.mem_cons_of_mem _ hp
          exact fun _u=>rfl
         show Ex _ _ _ _ (put (scanW σ A K (atomsOf cl f) []) W (.dict (stepKv cl f acc r))) _ _
         walk_at "2"
         ·with_reducible apply ex_if (b:=false)
          walk_at "5";(with_reducible apply tr_val;apply ev_methd);assumption;walk_at "n";exact I3 _;rfl;exact judge_off (by decide +kernel);k_is;k_is;k_is;k_is;rfl;walk_at "1";walk_at "n";walk_at "1";walk_at "n";exact evs_nil;rfl;rfl;exact c_holds hK (I3 _) rW put_here f kn;walk_at "k";rfl;rfl;rfl;exact hp;intro h;cases h
          intro _
          exact ex_nil
         exact ex_nil
        exact fun p hp=>List.mem_cons_of_mem _ hp
       walk_at "2"
       ·with_reducible apply ex_for
        walk_at "f";walk_at "d";(with_reducible apply ev_callt);((with_reducible apply ev_blt);assumption;walk_at "f";rfl;k_is;exact bb_range;decide;decide);walk_at "1";(with_reducible apply ev_callb);((with_reducible apply ev_blt);assumption;walk_at "f";rfl;k_is;exact bb_len;decide;decide);walk_at "1";walk_at "n";exact evs_nil;rfl;exact blt_len_list (by walk_at "o");rfl;rfl;exact evs_nil;rfl;exact typ_range;rfl;rfl;exact iter_range (by walk_at "o")
        ·refine' turns_fold (ρ:=("number",.d (.int ((r:Nat):Int)))::("free",.d (.list (freeOf cl f)))::("world",.v (.ref W))::("stack",.v (.ref K))::("atoms",.v (.ref A))::[("self",.v (.ref J)),("some",.d (.tuple (cl.map .int))),("meaning",.d f.dataU)]) (fun i=>PyData.int (i:Nat)) (fun acc=>put (scanW σ A K (atomsOf cl f) []) W (.dict acc)) (fun acc p=>kvSet acc ((freeOf cl f).getD p .none) (.d (.bool (bitAt r p)))) (fun m acc=>acc.length+m≤100000) rfl (List.range (freeOf cl f).length) acc (by have:=hi.len;simp;walk_at "o") (fun p hp m acc hi=>⟨by have:=kvSet_len (kvs:=acc) (k:=(freeOf cl f).getD p .none) (v:=.d (.bool (bitAt r p)));walk_at "o",?_⟩)
         have hpl:=List.mem_range.mp hp
         with_reducible apply ex_sub
         ·walk_at "2"
          ·with_reducible apply ex_dsetP
           (with_reducible apply ev_cmp;apply ev_bin;apply ev_bin);walk_at "n";walk_at "n";walk_at "b";exact ev_int;walk_at "b";exact ev_int;walk_at "c";(with_unfolding_all rfl);walk_at "n";(with_reducible apply ev_sub);walk_at "n";walk_at "n";exact sub_list (by walk_at "o") (by walk_at "o") (by walk_at "o") (by rw [show placeOf ((p:Nat):Int) (freeOf cl f).length=p from if_neg (by walk_at "o")];exact free_at hp);exact rW;exact free_key hf hn _ (List.mem_of_getElem? (free_at hp))
           ·walk_at "o"
           rfl
          exact ex_nil
         exact fun p hp=>List.mem_cons_of_mem _ hp
        exact fun _u=>rfl
       show Ex _ _ _ _ (put (scanW σ A K (atomsOf cl f) []) W (.dict (stepKv cl f acc r))) _ _
       walk_at "6";(with_reducible apply ex_if (b:=true));walk_at "5";(with_reducible apply tr_val;apply ev_methd);assumption;walk_at "n";exact I3 _;rfl;exact judge_off (by decide +kernel);k_is;k_is;k_is;k_is;rfl;walk_at "1";walk_at "n";walk_at "1";walk_at "n";exact evs_nil;rfl;rfl;exact c_holds hK (I3 _) rW put_here f kn;walk_at "k";rfl;rfl;rfl;exact hp
       ·intro _
        walk_at "6";(with_reducible apply ex_ret);exact ev_str
       intro h;cases h
      exact fun _u=>rfl
     exact if_neg hany
    walk_at "6";(with_reducible apply ex_ret);exact ev_str
end
section
theorem turns_acc {S:Sys} {n:Nat} {env:Env} {x:Str} {body:List Stmt} {α β:Type} (it:α→PyData) (rho:β→List (Str × AV)) (st:β→Sto) (step:β→α→β) (Inv:Nat→β→Prop) (hu:∀ acc,((rho acc).all fun p=>p.1 != x)=true):∀ (l:List α) (acc:β),Inv l.length acc →
  (∀ r∈l,∀ m acc,Inv (m+1) acc→Inv m (step acc r)∧Ex S n env ((x,.d (it r))::rho acc) (st acc) (execs body env) (.next (rho (step acc r)) (st (step acc r)))) →
  Turns S n env x body (l.map it) (rho acc) (st acc) (.next (rho (l.foldl step acc)) (st (l.foldl step acc)))
 | [],_,_,_=>.nil
 | r::l,acc,hi,h=>by
  obtain ⟨h1,h2⟩:=h r (.head _) l.length acc hi
  exact .cons (upd_new (hu acc)) h2 (turns_acc it rho st step Inv hu l _ h1 fun r hr=>h r (.tail _ hr))
noncomputable def pick3 (d s:Int):List Int:=if d=0 then [] else if d=1 then [s] else [0 - s]
noncomputable def clStep (dr:Nat→Int→Int) (acc:List Int × Nat) (s:Int):List Int × Nat:=(acc.1++pick3 (dr acc.2 3) s,acc.2+1)
noncomputable def clA (dr:Nat→Int→Int) (k:Nat):List Int:=(([2,3,4]:List Int).foldl (clStep dr) ([],k)).1
theorem clA_is (dr:Nat→Int→Int) (k:Nat):clA dr k=[]++pick3 (dr k 3) 2++pick3 (dr (k+1) 3) 3++pick3 (dr (k+2) 3) 4:=rfl
theorem three_at {d s:Int} (h0:0≤d) (h3:d<3):([PyData.list [],.list [mk s],.list [mk (0 - s)]])[placeOf d 3]?=some (.list ((pick3 d s).map mk)):=by
 have:d=0∨d=1∨d=2:=by walk_at "o"
 rcases this with rfl | rfl | rfl <;> rfl
noncomputable def brk (b c:Int):Int:=Builtin.bitAnd b (if 0<c then every - colOf (abs' c - 2).toNat else colOf (abs' c - 2).toNat)
noncomputable def brokenOf (cl:List Int):Int:=cl.foldl brk every
noncomputable def strangeN (d:Int):Nat:=if d≤2 then 0 else (d+5).toNat
theorem strange_at {d:Int} (h0:0≤d) (h8:d<8):([PyData.int 0,.int 0,.int 0,.int 8,.int 9,.int 10,.int 11,.int 12])[placeOf d 8]?=some (.int ((strangeN d:Nat):Int)):=by
 have:d=0∨d=1∨d=2∨d=3∨d=4∨d=5∨d=6∨d=7:=by walk_at "o"
 rcases this with rfl | rfl | rfl | rfl | rfl | rfl | rfl | rfl <;> rfl
theorem strangeN_le {d:Int} (h8:d<8):strangeN d≤12:=by unfold strangeN;split <;> walk_at "o"
noncomputable def odd1 (k:Nat):Int:=(20+(k:Int))*(1 - 2*((k:Int).fmod 2))
noncomputable def strange (m:Nat):List Int:=(List.range m).map odd1
noncomputable def clB (dr:Nat→Int→Int) (k:Nat):List Int:=clA dr k++strange (strangeN (dr (k+3) 8))
noncomputable def clC (dr:Nat→Int→Int) (k:Nat):List Int:=if dr (k+4) 2=1 then (clB dr k).reverse else clB dr k
noncomputable def univ:List Int:=[2,3,4,20,21,22,23,24,25,26,27,28,29,30,31]
structure ClOk (cl:List Int):Prop where
 nd:(cl.map abs').Nodup
 len:cl.length≤15
 mem:∀ c∈cl,abs' c∈univ
theorem clOk_all:∀ a∈([[],[2],[-2]]:List (List Int)),∀ b∈([[],[3],[-3]]:List (List Int)),∀ c∈([[],[4],[-4]]:List (List Int)),∀ m,m<13→((([]++a++b++c++strange m).map abs').Nodup∧([]++a++b++c++strange m).length≤15∧∀ x∈[]++a++b++c++strange m,abs' x∈univ):=by decide +kernel
theorem pick3_in {d s:Int}:pick3 d s∈([[],[s],[0 - s]]:List (List Int)):=by unfold pick3;(repeat' split) <;> simp
theorem clB_ok {dr:Nat→Int→Int} {k:Nat} (h:dr (k+3) 8<8):ClOk (clB dr k):=by
 unfold clB
 rw [clA_is]
 obtain ⟨a,b,c⟩:=clOk_all _ pick3_in _ pick3_in _ pick3_in _ (Nat.lt_succ_of_le (strangeN_le h))
 exact ⟨a,b,c⟩
theorem ClOk.rev {cl:List Int} (h:ClOk cl):ClOk cl.reverse:=by
 refine ⟨?_,by rw [List.length_reverse];exact h.len,fun c hc=>h.mem c (List.mem_reverse.mp hc)⟩
 rw [List.map_reverse]
 exact List.pairwise_reverse.mpr (h.nd.imp Ne.symm)
theorem clC_ok {dr:Nat→Int→Int} {k:Nat} (h:dr (k+3) 8<8):ClOk (clC dr k):=by
 unfold clC
 split
 exact (clB_ok h).rev;exact clB_ok h
theorem clA_mem {dr:Nat→Int→Int} {k:Nat}:∀ c∈clA dr k,∃ i:Nat,i<3∧abs' c=2+(i:Int):=by
 rw [clA_is]
 intro c hc
 have pm:∀ (d:Int) (s:Int) (i:Nat),i<3→0<s→s=2+(i:Int)→c∈pick3 d s→∃ i:Nat,i<3∧abs' c=2+(i:Int):=fun d s i hi hs hsi h=>by
  unfold pick3 at h
  refine ⟨i,hi,?_⟩
  split at h
  ·simp at h
  split at h
  ·rw [List.mem_singleton.mp h];unfold abs';split <;> walk_at "o"
  rw [List.mem_singleton.mp h];unfold abs';split <;> walk_at "o"
 simp only [List.nil_append,List.mem_append] at hc
 rcases hc with (hc | hc) | hc
 exact pm _ 2 0 (by decide) (by decide) rfl hc;exact pm _ 3 1 (by decide) (by decide) rfl hc;exact pm _ 4 2 (by decide) (by decide) rfl hc
theorem clA_len {dr:Nat→Int→Int} {k:Nat}:(clA dr k).length≤3:=by
 rw [clA_is]
 have:∀ d s,(pick3 d s).length≤1:=fun d s=>by unfold pick3;(repeat' split) <;> simp
 have a:=this (dr k 3) 2
 have b:=this (dr (k+1) 3) 3
 have c:=this (dr (k+2) 3) 4
 simp only [List.nil_append,List.length_append]
 walk_at "o"
theorem spot_int {i:Nat} (h:i<3):spotU i=.int (2+(i:Int)):=by
 have:i=0∨i=1∨i=2:=by walk_at "o"
 rcases this with rfl | rfl | rfl <;> rfl
noncomputable def Fm.metU:Fm→List PyData
 | .atom i=>[spotU i]
 | .tt | .ff=>[]
 | .not f=>f.metU++[]
 | .or f g | .and f g | .iff f g | .xor f g=>f.metU++(g.metU++[])
inductive ElAll:List PyData→List PyData→Prop
 | nil:ElAll [] []
 | cons {x d xs ds}:ElD x d→ElAll xs ds→ElAll (x::xs) (d::ds)
theorem ElAll.append {xs ds ys es:List PyData} (h:ElAll xs ds) (h':ElAll ys es):ElAll (xs++ys) (ds++es):=by
 induction h with
 | nil=>exact h'
 | cons a _ ih=>exact .cons a ih
theorem ElAll.len {xs ds:List PyData} (h:ElAll xs ds):xs.length=ds.length:=by
 induction h with
 | nil=>rfl
 | cons _ _ ih=>rw [List.length_cons,List.length_cons,ih]
theorem ElAll.at {xs ds:List PyData} (h:ElAll xs ds):∀ (i:Nat) x,xs[i]?=some x→∃ d,ds[i]?=some d∧ElD x d:=by
 induction h with
 | nil=>intro i x h;simp at h
 | cons a _ ih=>
  intro i x h
  cases i with
  | zero=>simp at h;subst h;exact ⟨_,rfl,a⟩
  | succ i=>rw [List.getElem?_cons_succ] at h ⊢;exact ih i x h
theorem spot_el {i:Nat} (h:i<5):ElD (spotAt i) (spotU i):=by
 have k:=spot_key h
 rcases five h with rfl | rfl | rfl | rfl | rfl
 exact .inl ⟨2,rfl,rfl⟩;exact .inl ⟨3,rfl,rfl⟩;exact .inl ⟨4,rfl,rfl⟩;exact .inr ⟨_,rfl,rfl,k⟩;exact .inr ⟨_,rfl,rfl,k⟩
theorem met_el:∀ {f:Fm},f.wf→ElAll f.met f.metU
 | .atom i,h=>.cons (spot_el h) .nil
 | .tt,_ | .ff,_=>.nil
 | .not f,h=>(met_el (f:=f) h).append .nil
 | .or f g,h | .and f g,h | .iff f g,h | .xor f g,h=>(met_el (f:=f) h.1).append ((met_el (f:=g) h.2).append .nil)
theorem cl_el:∀ {cl:List Int},ElAll (cl.map fun c=>mk (abs' c)) (cl.map keyC)
 | []=>.nil
 | c::cl=>.cons (.inl ⟨_,rfl,rfl⟩) cl_el
theorem addAll_mem:∀ {f:Fm},f.wf→∀ {as:List PyData},(∀ x∈as,KeyD 6 x)→(∀ x∈f.addAll as,KeyD 6 x)∧∀ y,y∈f.addAll as↔y∈as∨y∈f.metU
 | .atom i,h,as,hk=>by
  refine ⟨put1_key (f:=.atom i) h hk,fun y=>?_⟩
  show y∈(if (as.any fun y=>PyData.eqv y (spotU i))=true then as else as++[spotU i])↔_
  show _↔y∈as∨y∈[spotU i]
  by_cases e:(as.any fun y=>PyData.eqv y (spotU i))=true
  ·rw [if_pos e,List.mem_singleton]
   obtain ⟨z,hz,ez⟩:=List.any_eq_true.mp e
   have:=((hk z hz).eqv (spot_key h)).mp ez
   exact ⟨.inl,fun q=>q.elim id fun q=>by rw [q,← this];exact hz⟩
  rw [if_neg e,List.mem_append]
 | .tt,_,as,hk=>⟨hk,fun y=>by show y∈as↔y∈as∨y∈[];simp⟩
 | .ff,_,as,hk=>⟨hk,fun y=>by show y∈as↔y∈as∨y∈[];simp⟩
 | .not f,h,as,hk=>by
  obtain ⟨a,b⟩:=addAll_mem (f:=f) h hk
  refine ⟨a,fun y=>(b y).trans ?_⟩
  show _↔y∈as∨y∈f.metU++[]
  simp
 | .or f g,h,as,hk | .and f g,h,as,hk | .iff f g,h,as,hk | .xor f g,h,as,hk=>by
  obtain ⟨a,b⟩:=addAll_mem (f:=g) h.2 hk
  obtain ⟨a',b'⟩:=addAll_mem (f:=f) h.1 a
  refine ⟨a',fun y=>(b' y).trans ?_⟩
  rw [b]
  show _↔y∈as∨y∈f.metU++(g.metU++[])
  simp only [List.append_nil,List.mem_append]
  constructor
  ·rintro ((h | h) | h)
   exact .inl h;exact .inr (.inr h);exact .inr (.inl h)
  rintro (h | h | h)
  exact .inl (.inl h);exact .inr h;exact .inl (.inr h)
noncomputable def universe5:List PyData:=spotsU++([20,21,22,23,24,25,26,27,28,29,30,31]:List Int).map .int
theorem metU_univ:∀ {f:Fm},f.wf→∀ y∈f.metU,y∈universe5
 | .atom i,h,y,hy=>by
  rw [List.mem_singleton.mp hy]
  refine List.mem_append_left _ ?_
  rcases five h with rfl | rfl | rfl | rfl | rfl
  exact .head _;exact .tail _ (.head _);exact .tail _ (.tail _ (.head _));exact .tail _ (.tail _ (.tail _ (.head _)));exact .tail _ (.tail _ (.tail _ (.tail _ (.head _))))
 | .not f,h,y,hy=>metU_univ (f:=f) h y ((List.append_nil f.metU)▸hy)
 | .or f g,h,y,hy | .and f g,h,y,hy | .iff f g,h,y,hy | .xor f g,h,y,hy=>by
  have hy:y∈f.metU++(g.metU++[]):=hy
  simp only [List.append_nil,List.mem_append] at hy
  exact hy.elim (metU_univ (f:=f) h.1 y) (metU_univ (f:=g) h.2 y)
theorem cl_univ {cl:List Int} (h:ClOk cl):∀ y∈cl.map keyC,y∈universe5:=fun y hy=>by
 obtain ⟨c,hc,rfl⟩:=List.mem_map.mp hy
 have key:∀ z∈univ,PyData.int z∈universe5:=fun z hz=>by
  have hz:z∈([2,3,4]:List Int)++[20,21,22,23,24,25,26,27,28,29,30,31]:=hz
  rcases List.mem_append.mp hz with hz | hz
  exact List.mem_append_left _ (show PyData.int z∈([2,3,4]:List Int).map .int++[bit0,bit1] from List.mem_append_left _ (List.mem_map_of_mem hz));exact List.mem_append_right _ (List.mem_map_of_mem hz)
 exact key _ (h.mem c hc)
theorem count_le {cl:List Int} {f:Fm} (h:ClOk cl) (hf:f.wf):∀ kl:List PyData,kl.Nodup→(∀ y∈kl,y∈cl.map keyC++f.metU)→kl.length≤17:=fun kl nd sub=>
 List.Nodup.length_le_of_subset (l₂:=universe5) nd fun y hy=>(List.mem_append.mp (sub y hy)).elim (cl_univ h y) (metU_univ hf y)
theorem count_is {cl:List Int} {f:Fm} (h:ClOk cl) (hf:f.wf):∀ kl:List PyData,kl.Nodup→(∀ y,y∈kl↔y∈cl.map keyC++f.metU)→kl.length=(atomsOf cl f).length:=fun kl nd m=>by
 have A:=addAll_spec hf cl_key (cl_nodup h.nd)
 refine ((List.perm_ext_iff_of_nodup nd A.nd).mpr fun y=>?_).length_eq
 rw [m,(addAll_mem hf cl_key).2 y,List.mem_append]
noncomputable def dueOf (cl0 cl:List Int) (f:Fm):Str:=if Builtin.bitAnd (brokenOf cl0) (holdOf f)=0∧(atomsOf cl f).length<13 then "" else "bits"
theorem form_wf (dr:Nat→Int→Int) (h5:∀ k,0≤dr k 5∧dr k 5<5):∀ d k,(formOf dr d k).1.wf
 | 0,k=>by show (dr k 5).toNat<5;have:=h5 k;walk_at "o"
 | d+1,k=>by
  rw [formOf]
  have h1:=form_wf dr h5 d (k+1)
  have h2:=form_wf dr h5 d (formOf dr d (k+1)).2
  split
  ·show (dr (k+1) 5).toNat<5;have:=h5 (k+1);walk_at "o"
  split
  ·dsimp only;split <;> trivial
  split
  exact h1
  dsimp only;unfold mkF;(repeat' split) <;> exact ⟨h1,h2⟩
theorem form_ht (dr:Nat→Int→Int):∀ d k,(formOf dr d k).1.ht≤d
 | 0,k=>Nat.le_refl 0
 | d+1,k=>by
  rw [formOf]
  have h1:=form_ht dr d (k+1)
  have h2:=form_ht dr d (formOf dr d (k+1)).2
  split
  exact Nat.zero_le _
  split
  ·dsimp only;split <;> exact Nat.zero_le _
  split
  exact Nat.succ_le_succ h1
  dsimp only;unfold mkF;(repeat' split) <;> (exact Nat.succ_le_succ (Nat.max_le.mpr ⟨h1,h2⟩))
end
section
variable {B:Base} {R:Addr→Prop} {lo:∀ a,R a→B.h₁.get? a=none} {σ:Sto}
@[reducible] noncomputable def clD (c:List Int):AV:=.d (.list (c.map mk))
theorem pick3_len {d s:Int}:(pick3 d s).length≤1:=by unfold pick3;(repeat' split) <;> simp
theorem fgt_clause {cl:List Int}:fgt (.tuple (cl.map mk))=.tuple (cl.map .int):=by
 have:∀ cl:List Int,fgtAll (cl.map mk)=cl.map .int:=fun cl=>by
  induction cl with
  | nil=>rfl
  | cons c cl ih=>exact congrArg (PyData.int c::·) ih
 exact congrArg PyData.tuple (this cl)
theorem rev_map {c:List Int}:(c.map mk).reverse=(c.reverse).map mk:=(List.map_reverse ..).symm
theorem tableOf_ok {cl:List Int} {f:Fm}:PyData.strOk (tableOf cl f)=true:=by unfold tableOf;(repeat' split) <;> decide +kernel
noncomputable def tabOk (dr:Nat→Int→Int) (k:Nat):Bool:=tableOf (clC dr (formOf dr 3 k).2) (formOf dr 3 k).1 == dueOf (clA dr (formOf dr 3 k).2) (clC dr (formOf dr 3 k).2) (formOf dr 3 k).1
theorem c_tabright (hK:(KZ B.w.params).In B.h₁) {F J dJ bk tb:Addr} {cells:List Int} {b:Int} (fd:Feed R F cells b) (I:Judge R σ J dJ bk tb) (n1:J≠F) (n2:dJ≠F) {k:Nat} (hk:k+50<1000) :
  FS (B.sys R lo) 10 892 [.v (.ref F),.v (.ref J)] (fw σ F cells b k) (.d (.bool (tabOk (drw cells b) k))) (fw σ F cells b ((formOf (drw cells b) 3 k).2+5)):=by
 refine fs_def (names:=["feed","judge"]) hK ?h_1
 case h_1=>
  intro env f
  change Ex _ _ _ [("feed",_),("judge",_)] _ _ _
  have kf:=formOf_le (drw cells b) 3 k
  have wf:=form_wf (drw cells b) (fun k=>⟨draw_lo (by decide),draw_hi (by decide)⟩) 3 k
  have ht:=form_ht (drw cells b) 3 k
  have I1:∀ k,Judge R (fw σ F cells b k) J dJ bk tb:=fun k=>I.put n1 n2
  generalize hfm:formOf (drw cells b) 3 k=fk at kf wf ht
  obtain ⟨f,k1⟩:=fk
  dsimp only at kf wf ht
  have c8:drw cells b (k1+3) 8<8:=draw_hi (by decide)
  have clok:=clC_ok (dr:=drw cells b) (k:=k1) c8
  rw [show tabOk (drw cells b) k=(tableOf (clC (drw cells b) k1) f == dueOf (clA (drw cells b) k1) (clC (drw cells b) k1) f) by unfold tabOk;rw [hfm]]
  show Ex _ _ _ _ _ _ (.ret _ (fw σ F cells b (k1+5)))
  have hform:FS (B.sys R lo) 5 870 [.v (.ref F),.d (.int (3:Nat))] (fw σ F cells b k) (.d f.data) (fw σ F cells b k1):=by have:=c_formula (σ:=σ) (lo:=lo) hK fd 3 (k:=k) (by walk_at "o");rw [hfm] at this;exact this
  walk_at "2";(with_reducible apply ex_unpack);walk_at "f";walk_at "ns";decide;walk_at "da";(with_reducible apply ev_tuple);walk_at "3";(with_reducible apply ev_call);walk_at "g";walk_at "1";walk_at "n";walk_at "1";exact ev_int;exact evs_nil;rfl;rfl;exact hform;walk_at "k";exact hK _ _ (by k_is);rfl;rfl;walk_at "3";(with_reducible apply ev_list);exact evd_nil;rfl;exact evd_nil;rfl;rfl;rfl;rfl;walk_at "w";walk_at "ua";rfl;walk_at "2"
  ·with_reducible apply ex_for
   walk_at "f";walk_at "d"
   ·exact ev_upto (k:=3) (by
     (with_reducible apply ev_call);walk_at "g";exact evs_nil;exact c_spots hK;walk_at "k";exact hK _ _ (by k_is);rfl;rfl
     ) (ev_int (i:=3)) (by decide)
   exact iter_list
   ·refine' turns_acc mk (fun acc:List Int × Nat=>[("formula",.d f.data),("clause",clD acc.1),("feed",.v (.ref F)),("judge",.v (.ref J))]) (fun acc=>fw σ F cells b acc.2) (clStep (drw cells b)) (fun m acc=>acc.1.length+m≤10∧acc.2+m=k1+3) (fun acc=>rfl) [2,3,4] ([],k1) ⟨by simp,rfl⟩ (fun s hs m acc hi=>⟨⟨?_,?_⟩,?_⟩)
    ·have:=pick3_len (d:=drw cells b acc.2 3) (s:=s)
     have:=hi.1
     show (acc.1++pick3 (drw cells b acc.2 3) s).length+m≤10
     rw [List.length_append];walk_at "o"
    ·have:=hi.2;show acc.2+1+m=_;walk_at "o"
    have hi2:=hi.2
    show Ex _ _ _ _ _ _ (.next [("formula",.d f.data),("clause",clD (acc.1++pick3 (drw cells b acc.2 3) s)),("feed",.v (.ref F)),("judge",.v (.ref J))] (fw σ F cells b (acc.2+1)))
    with_reducible apply ex_sub
    ·walk_at "2"
     ·with_reducible apply ex_assign
      walk_at "f";walk_at "d"
      ·with_reducible apply ev_is (b:=clD (acc.1++pick3 (drw cells b acc.2 3) s))
       ·with_reducible apply ev_bin
        walk_at "n"
        ·with_reducible apply ev_sub
         (with_reducible apply ev_list);walk_at "3";(with_reducible apply ev_list);exact evd_nil;rfl;walk_at "3";(with_reducible apply ev_list);walk_at "3";walk_at "n";exact evd_nil;rfl;rfl;walk_at "3";(with_reducible apply ev_list);walk_at "3";(with_reducible apply ev_bin);exact ev_int;(with_reducible apply ev_unmk);walk_at "n";exact bin_subm;exact evd_nil;rfl;rfl;exact evd_nil;rfl;rfl;rfl;rfl;(with_reducible apply ev_call);walk_at "g";walk_at "1";walk_at "n";walk_at "1";exact ev_int;exact evs_nil;rfl;rfl;exact c_drawP hK fd (by walk_at "o") (by decide);walk_at "k";exact hK _ _ (by k_is);rfl;rfl
         have d0:=draw_lo (cells:=cells) (k:=acc.2) (b:=b) (many:=3) (by decide)
         have d3:=draw_hi (cells:=cells) (k:=acc.2) (b:=b) (many:=3) (by decide)
         exact sub_list (by simp;walk_at "o") (by walk_at "o") (by walk_at "o") (three_at d0 d3)
        exact bin_cat (by have:=hi.1;have:=pick3_len (d:=drawOf cells acc.2 b 3) (s:=s);rw [List.length_map,List.length_map];walk_at "o")
       rw [clD,List.map_append]
      walk_at "u";rfl
     exact ex_nil
    exact fun p hp=>List.mem_cons_of_mem _ hp
   exact fun _u=>rfl
  show Ex _ _ _ [("formula",.d f.data),("clause",clD (clA (drw cells b) k1)),("feed",.v (.ref F)),("judge",.v (.ref J))] (fw σ F cells b (k1+3)) _ _
  have cm:=clA_mem (dr:=drw cells b) (k:=k1)
  have cn:=clA_len (dr:=drw cells b) (k:=k1)
  generalize hA:clA (drw cells b) k1=cA at cm cn ⊢
  walk_at "2";(with_reducible apply ex_assign);walk_at "f";walk_at "d";(with_reducible apply ev_bin;apply ev_bin);exact ev_int;exact ev_int;walk_at "b";exact ev_int;walk_at "b";walk_at "u";rfl;walk_at "2"
  ·with_reducible apply ex_for
   walk_at "f";walk_at "d";walk_at "n";exact iter_list
   ·refine' turns_acc mk (fun bb:Int=>[("formula",.d f.data),("clause",clD cA),("feed",.v (.ref F)),("judge",.v (.ref J)),("broken",.d (.int bb))]) (fun _u=>fw σ F cells b (k1+3)) brk (fun _u _u=>True) (fun acc=>rfl) cA every trivial (fun c hc m bb _u=>⟨trivial,?_⟩)
    obtain ⟨i,hi3,hci⟩:=cm c hc
    have e2:(abs' c - 2).toNat=i:=by rw [hci];walk_at "o"
    by_cases hp:0<c
    ·rw [show brk bb c=Builtin.bitAnd bb (every - colOf i) by unfold brk;rw [if_pos hp,e2]]
     with_reducible apply ex_sub
     ·walk_at "2"
      ·with_reducible apply ex_assign
       walk_at "f";walk_at "d"
       ·with_reducible apply ev_call
        walk_at "g"
        ·walk_at "1"
         ·with_reducible apply ev_is (b:=.d (spotU i))
          (with_reducible apply ev_unmk;apply ev_callb);((with_reducible apply ev_blt);assumption;walk_at "f";rfl;k_is;exact bb_abs;decide;decide);walk_at "1";walk_at "n";exact evs_nil;rfl;exact blt_absm;rfl;rfl
          rw [spot_int hi3,← hci]
         exact evs_nil;rfl
        exact c_column hK (by walk_at "o");walk_at "k";exact hK _ _ (by k_is);rfl;rfl
       walk_at "u";rfl
      walk_at "2"
      ·with_reducible apply ex_assign
       walk_at "f";walk_at "d"
       ·with_reducible apply ev_bin
        walk_at "n"
        ·with_reducible apply ev_ite (b:=true)
         walk_at "5";walk_at "4";(with_reducible apply ev_unmk);walk_at "n";exact ev_int;walk_at "c";(with_unfolding_all rfl);walk_at "t"
         ·intro _
          (with_reducible apply ev_bin;apply ev_bin;apply ev_bin);exact ev_int;exact ev_int;walk_at "b";exact ev_int;walk_at "b";walk_at "n";walk_at "b"
         intro h;cases h
        walk_at "b"
       walk_at "u";rfl
      exact ex_nil
     repeat' (first | exact sub_nil | refine sub_keep ?_ | refine sub_skip ?_)
    rw [show brk bb c=Builtin.bitAnd bb (colOf i) by unfold brk;rw [if_neg hp,e2]]
    with_reducible apply ex_sub
    ·walk_at "2"
     ·with_reducible apply ex_assign
      walk_at "f";walk_at "d"
      ·with_reducible apply ev_call
       walk_at "g"
       ·walk_at "1"
        ·with_reducible apply ev_is (b:=.d (spotU i))
         (with_reducible apply ev_unmk;apply ev_callb);((with_reducible apply ev_blt);assumption;walk_at "f";rfl;k_is;exact bb_abs;decide;decide);walk_at "1";walk_at "n";exact evs_nil;rfl;exact blt_absm;rfl;rfl
         rw [spot_int hi3,← hci]
        exact evs_nil;rfl
       exact c_column hK (by walk_at "o");walk_at "k";exact hK _ _ (by k_is);rfl;rfl
      walk_at "u";rfl
     walk_at "2"
     ·with_reducible apply ex_assign
      walk_at "f";walk_at "d"
      ·with_reducible apply ev_bin
       walk_at "n"
       ·with_reducible apply ev_ite (b:=false)
        walk_at "5";walk_at "4";(with_reducible apply ev_unmk);walk_at "n";exact ev_int;walk_at "c";(with_unfolding_all rfl);walk_at "t";intro h;cases h
        intro _
        walk_at "n"
       walk_at "b"
      walk_at "u";rfl
     exact ex_nil
    repeat' (first | exact sub_nil | refine sub_keep ?_ | refine sub_skip ?_)
   exact fun _u=>rfl
  show Ex _ _ _ [("formula",.d f.data),("clause",clD cA),("feed",.v (.ref F)),("judge",.v (.ref J)),("broken",.d (.int (brokenOf cA)))] (fw σ F cells b (k1+3)) _ _
  walk_at "2"
  ·with_reducible apply ex_assign
   walk_at "f";walk_at "d"
   ·with_reducible apply ev_is (b:=clD (cA++strange (strangeN (drw cells b (k1+3) 8))))
    ·with_reducible apply ev_bin
     walk_at "n"
     ·with_reducible apply ev_new
      refine' evn_comp (ρc:=[]) (by walk_at "f") ?cf1 ?it1 (iter_range (n:=strangeN (drw cells b (k1+3) 8)) (by have:=strangeN_le c8;walk_at "o")) ?ct1 ?hz1 (fun _u=>rfl)
      case hz1=>simp [upTo];have:=strangeN_le c8;walk_at "o"
      case cf1=>
       refine ⟨fun p hp hq=>?_,by decide,by decide,rfl,rfl,fun p hp=>?_⟩
       ·exfalso;revert p;decide
       simp at hp
      case it1=>
       (with_reducible apply ev_callt);((with_reducible apply ev_blt);assumption;walk_at "f";rfl;k_is;exact bb_range;decide;decide);walk_at "1";(with_reducible apply ev_sub;apply ev_list);walk_at "3";exact ev_int;walk_at "3";exact ev_int;walk_at "3";exact ev_int;walk_at "3";exact ev_int;walk_at "3";exact ev_int;walk_at "3";exact ev_int;walk_at "3";exact ev_int;walk_at "3";exact ev_int;exact evd_nil;rfl;rfl;rfl;rfl;rfl;rfl;rfl;rfl;rfl;(with_reducible apply ev_call);walk_at "g";walk_at "1";walk_at "n";walk_at "1";exact ev_int;exact evs_nil;rfl;rfl;exact c_drawP hK fd (by walk_at "o") (by decide);walk_at "k";exact hK _ _ (by k_is);rfl;rfl;exact sub_list (by have:=draw_lo (cells:=cells) (k:=k1+3) (b:=b) (many:=8) (by decide);simp;walk_at "o") (by have:=draw_lo (cells:=cells) (k:=k1+3) (b:=b) (many:=8) (by decide);walk_at "o") (by have:=draw_hi (cells:=cells) (k:=k1+3) (b:=b) (many:=8) (by decide);walk_at "o") (strange_at (draw_lo (by decide)) (draw_hi (by decide)));exact evs_nil;rfl;exact typ_range;rfl;rfl
      case ct1=>
       rw [upTo]
       refine' ct_map (fun i=>PyData.int (i:Nat)) (fun i=>mk (odd1 i)) fun r hr env f=>?_
       have hr:=List.mem_range.mp hr
       have s12:=strangeN_le c8
       have hrr:(r:Int)<12:=by walk_at "o"
       (with_reducible apply ev_bin;apply ev_bin);exact ev_int;walk_at "n";walk_at "b";(with_reducible apply ev_bin);exact ev_int;(with_reducible apply ev_bin);exact ev_int;(with_reducible apply ev_bin);walk_at "n";exact ev_int;walk_at "b";walk_at "b";walk_at "b";exact bin_mulm (mulOk (by walk_at "o"))
     exact bin_cat (by have:=strangeN_le c8;simp;walk_at "o")
    rw [clD,List.map_append,strange,List.map_map];rfl
   walk_at "u";rfl
  have eB:cA++strange (strangeN (drw cells b (k1+3) 8))=clB (drw cells b) k1:=by unfold clB;rw [hA]
  rw [eB]
  have bl:(clB (drw cells b) k1).length≤15:=(clB_ok c8).len
  have hk4:fw σ F cells b (k1+3+1+1)=fw σ F cells b (k1+5):=rfl
  by_cases h1:drawOf cells (k1+3+1) b 2=1
  ·have eC:clC (drw cells b) k1=(clB (drw cells b) k1).reverse:=if_pos h1
   generalize hcl:clC (drw cells b) k1=cl at clok eC ⊢
   have hcl:=eC
   have ll:=clok.len
   walk_at "2"
   ·with_reducible apply ex_if (b:=true)
    ·walk_at "5"
     walk_at "4";(with_reducible apply ev_call);walk_at "g";walk_at "1";walk_at "n";walk_at "1";exact ev_int;exact evs_nil;rfl;rfl;exact c_drawP hK fd (by walk_at "o") (by decide);walk_at "k";exact hK _ _ (by k_is);rfl;rfl;exact ev_int;walk_at "c";(with_unfolding_all rfl)
     simp [h1]
    ·intro _
     walk_at "2"
     ·with_reducible apply ex_assign
      walk_at "f";walk_at "d"
      ·with_reducible apply ev_is (b:=clD cl)
       ·with_reducible apply ev_rev
        walk_at "n";exact ev_neg
        ·first | walk_at "o" | (simp;walk_at "o")
        intro o i;exact ⟨_,by with_unfolding_all rfl⟩
       rw [rev_map,← hcl]
      walk_at "u";rfl
     exact ex_nil
    intro h;cases h
   walk_at "2"
   ·with_reducible apply ex_assign
    walk_at "f";walk_at "d"
    ·refine' ev_len_set (xs:=cl.map (fun c=>mk (abs' c))++f.met) (ds:=cl.map keyC++f.metU) ?lT1 ?lT2 ?lT3 ?lT4 ?lT5 ?lT6 ?lT7
     case lT1=>((with_reducible apply ev_blt);assumption;walk_at "f";rfl;k_is;exact bb_len;decide;decide)
     case lT2=>((with_reducible apply ev_blt);assumption;walk_at "f";rfl;k_is;exact bb_set;decide;decide)
     case lT3=>
      with_reducible apply ev_bin
      ·with_reducible apply ev_new
       refine' evn_comp (ρc:=[]) (by walk_at "f") ?cf2 ?it2 (iter_list (xs:=cl.map mk)) ?ct2 ?hz2 (fun _u=>rfl)
       case hz2=>simp;walk_at "o"
       case cf2=>
        refine ⟨fun p hp hq=>?_,by decide,by decide,rfl,rfl,fun p hp=>?_⟩
        ·exfalso;revert p;decide
        simp at hp
       case it2=>
        walk_at "n"
       case ct2=>
        refine' ct_map mk (fun c=>mk (abs' c)) fun r hr env f=>?_
        (with_reducible apply ev_callb);((with_reducible apply ev_blt);assumption;walk_at "f";rfl;k_is;exact bb_abs;decide;decide);walk_at "1";walk_at "n";exact evs_nil;rfl;exact blt_absm;rfl;rfl
      (with_reducible apply ev_call);walk_at "g";walk_at "1";walk_at "n";exact evs_nil;rfl;exact (c_met hK f wf (by walk_at "o")).2;walk_at "k";exact hK _ _ (by k_is);rfl;rfl;exact bin_cat (by have:=(c_met (lo:=lo) (σ:=σ) hK f wf (by walk_at "o")).1;have:2 ^ f.ht≤2 ^ 3:=Nat.pow_le_pow_right (by decide) ht;simp;walk_at "o")
     case lT4=>exact (cl_el.append (met_el wf)).len
     case lT5=>exact (cl_el.append (met_el wf)).at
     case lT6=>exact count_le clok wf
     case lT7=>exact count_is clok wf
    walk_at "u";rfl
   by_cases hz:Builtin.bitAnd (brokenOf cA) (holdOf f)=0∧(atomsOf cl f).length<13
   ·rw [show dueOf cA cl f = "" from if_pos hz]
    walk_at "2"
    ·with_reducible apply ex_assign
     walk_at "f";walk_at "d"
     ·with_reducible apply ev_ite (b:=true)
      ·walk_at "5"
       ·with_reducible apply tr_bool
        with_reducible apply tr_and2
        ·walk_at "4"
         ·with_reducible apply ev_bin
          walk_at "n"
          ·with_reducible apply ev_call
           walk_at "g"
           ·walk_at "1"
            ·with_reducible apply ev_is (b:=.d f.dataU)
             (with_reducible apply ev_fgt);walk_at "n"
             rw [Fm.fgt_data wf]
            exact evs_nil;rfl
           exact c_holding hK f wf;walk_at "k";exact hK _ _ (by k_is);rfl;rfl
          walk_at "b"
         exact ev_int;walk_at "c";(with_unfolding_all rfl)
        intro _
        walk_at "4";walk_at "n";exact ev_int;walk_at "c";(with_unfolding_all rfl)
       have:=hz.1;have:=hz.2;simp only [Bool.and_eq_true,beq_iff_eq,decide_eq_true_eq];walk_at "o"
      ·intro _
       exact ev_str
      intro h;cases h
     walk_at "u";rfl
    walk_at "6";(with_reducible apply ex_ret;apply ev_cmp)
    ·with_reducible apply ev_methd
     assumption;walk_at "n";exact I1 _;rfl;exact judge_off (by decide +kernel);k_is;k_is;k_is;k_is;rfl
     ·walk_at "1"
      ·with_reducible apply ev_is (b:=.d (.tuple (cl.map .int)))
       (with_reducible apply ev_fgt;apply ev_callt);((with_reducible apply ev_blt);assumption;walk_at "f";rfl;k_is;exact bb_tuple;decide;decide);walk_at "1";walk_at "n";exact evs_nil;rfl;exact typ_tuple_list (by simp;walk_at "o");rfl;rfl
       rw [fgt_clause]
      ·walk_at "1"
       ·with_reducible apply ev_is (b:=.d f.dataU)
        (with_reducible apply ev_fgt);walk_at "n"
        rw [Fm.fgt_data wf]
       exact evs_nil;rfl
      rfl
     exact c_table hK (I1 _) wf (by walk_at "o") clok.len clok.nd;walk_at "k";rfl;rfl
    walk_at "n";exact cmp_str_eq tableOf_ok (by decide +kernel);(with_unfolding_all rfl)
   rw [show dueOf cA cl f = "bits" from if_neg hz]
   walk_at "2"
   ·with_reducible apply ex_assign
    walk_at "f";walk_at "d"
    ·with_reducible apply ev_ite (b:=false)
     ·walk_at "5"
      ·with_reducible apply tr_bool
       with_reducible apply tr_and2
       ·walk_at "4"
        ·with_reducible apply ev_bin
         walk_at "n"
         ·with_reducible apply ev_call
          walk_at "g"
          ·walk_at "1"
           ·with_reducible apply ev_is (b:=.d f.dataU)
            (with_reducible apply ev_fgt);walk_at "n"
            rw [Fm.fgt_data wf]
           exact evs_nil;rfl
          exact c_holding hK f wf;walk_at "k";exact hK _ _ (by k_is);rfl;rfl
         walk_at "b"
        exact ev_int;walk_at "c";(with_unfolding_all rfl)
       intro _
       walk_at "4";walk_at "n";exact ev_int;walk_at "c";(with_unfolding_all rfl)
      have hz':¬(Builtin.bitAnd (brokenOf cA) (holdOf f)=0∧(atomsOf cl f).length<13):=hz
      rw [Bool.and_eq_false_iff]
      by_cases q:Builtin.bitAnd (brokenOf cA) (holdOf f)=0
      ·right;rw [decide_eq_false_iff_not];exact fun q2=>hz ⟨q,by walk_at "o"⟩
      left;simpa using q
     intro h;cases h
     intro _
     exact ev_str
    walk_at "u";rfl
   walk_at "6";(with_reducible apply ex_ret;apply ev_cmp)
   ·with_reducible apply ev_methd
    assumption;walk_at "n";exact I1 _;rfl;exact judge_off (by decide +kernel);k_is;k_is;k_is;k_is;rfl
    ·walk_at "1"
     ·with_reducible apply ev_is (b:=.d (.tuple (cl.map .int)))
      (with_reducible apply ev_fgt;apply ev_callt);((with_reducible apply ev_blt);assumption;walk_at "f";rfl;k_is;exact bb_tuple;decide;decide);walk_at "1";walk_at "n";exact evs_nil;rfl;exact typ_tuple_list (by simp;walk_at "o");rfl;rfl
      rw [fgt_clause]
     ·walk_at "1"
      ·with_reducible apply ev_is (b:=.d f.dataU)
       (with_reducible apply ev_fgt);walk_at "n"
       rw [Fm.fgt_data wf]
      exact evs_nil;rfl
     rfl
    exact c_table hK (I1 _) wf (by walk_at "o") clok.len clok.nd;walk_at "k";rfl;rfl
   walk_at "n";exact cmp_str_eq tableOf_ok (by decide +kernel);(with_unfolding_all rfl)
  have eC:clC (drw cells b) k1=clB (drw cells b) k1:=if_neg h1
  generalize hcl:clC (drw cells b) k1=cl at clok eC ⊢
  have hcl:=eC.symm
  have ll:=clok.len
  walk_at "2"
  ·with_reducible apply ex_if (b:=false)
   ·walk_at "5"
    walk_at "4";(with_reducible apply ev_call);walk_at "g";walk_at "1";walk_at "n";walk_at "1";exact ev_int;exact evs_nil;rfl;rfl;exact c_drawP hK fd (by walk_at "o") (by decide);walk_at "k";exact hK _ _ (by k_is);rfl;rfl;exact ev_int;walk_at "c";(with_unfolding_all rfl)
    simp [h1]
   intro h;cases h
   intro _
   exact ex_nil
  rw [show clB (drw cells b) k1=cl from hcl]
  walk_at "2"
  ·with_reducible apply ex_assign
   walk_at "f";walk_at "d"
   ·refine' ev_len_set (xs:=cl.map (fun c=>mk (abs' c))++f.met) (ds:=cl.map keyC++f.metU) ?lF1 ?lF2 ?lF3 ?lF4 ?lF5 ?lF6 ?lF7
    case lF1=>((with_reducible apply ev_blt);assumption;walk_at "f";rfl;k_is;exact bb_len;decide;decide)
    case lF2=>((with_reducible apply ev_blt);assumption;walk_at "f";rfl;k_is;exact bb_set;decide;decide)
    case lF3=>
     with_reducible apply ev_bin
     ·with_reducible apply ev_new
      refine' evn_comp (ρc:=[]) (by walk_at "f") ?cf3 ?it3 (iter_list (xs:=cl.map mk)) ?ct3 ?hz3 (fun _u=>rfl)
      case hz3=>simp;walk_at "o"
      case cf3=>
       refine ⟨fun p hp hq=>?_,by decide,by decide,rfl,rfl,fun p hp=>?_⟩
       ·exfalso;revert p;decide
       simp at hp
      case it3=>
       walk_at "n"
      case ct3=>
       refine' ct_map mk (fun c=>mk (abs' c)) fun r hr env f=>?_
       (with_reducible apply ev_callb);((with_reducible apply ev_blt);assumption;walk_at "f";rfl;k_is;exact bb_abs;decide;decide);walk_at "1";walk_at "n";exact evs_nil;rfl;exact blt_absm;rfl;rfl
     (with_reducible apply ev_call);walk_at "g";walk_at "1";walk_at "n";exact evs_nil;rfl;exact (c_met hK f wf (by walk_at "o")).2;walk_at "k";exact hK _ _ (by k_is);rfl;rfl;exact bin_cat (by have:=(c_met (lo:=lo) (σ:=σ) hK f wf (by walk_at "o")).1;have:2 ^ f.ht≤2 ^ 3:=Nat.pow_le_pow_right (by decide) ht;simp;walk_at "o")
    case lF4=>exact (cl_el.append (met_el wf)).len
    case lF5=>exact (cl_el.append (met_el wf)).at
    case lF6=>exact count_le clok wf
    case lF7=>exact count_is clok wf
   walk_at "u";rfl
  by_cases hz:Builtin.bitAnd (brokenOf cA) (holdOf f)=0∧(atomsOf cl f).length<13
  ·rw [show dueOf cA cl f = "" from if_pos hz]
   walk_at "2"
   ·with_reducible apply ex_assign
    walk_at "f";walk_at "d"
    ·with_reducible apply ev_ite (b:=true)
     ·walk_at "5"
      ·with_reducible apply tr_bool
       with_reducible apply tr_and2
       ·walk_at "4"
        ·with_reducible apply ev_bin
         walk_at "n"
         ·with_reducible apply ev_call
          walk_at "g"
          ·walk_at "1"
           ·with_reducible apply ev_is (b:=.d f.dataU)
            (with_reducible apply ev_fgt);walk_at "n"
            rw [Fm.fgt_data wf]
           exact evs_nil;rfl
          exact c_holding hK f wf;walk_at "k";exact hK _ _ (by k_is);rfl;rfl
         walk_at "b"
        exact ev_int;walk_at "c";(with_unfolding_all rfl)
       intro _
       walk_at "4";walk_at "n";exact ev_int;walk_at "c";(with_unfolding_all rfl)
      have:=hz.1;have:=hz.2;simp only [Bool.and_eq_true,beq_iff_eq,decide_eq_true_eq];walk_at "o"
     ·intro _
      exact ev_str
     intro h;cases h
    walk_at "u";rfl
   walk_at "6";(with_reducible apply ex_ret;apply ev_cmp)
   ·with_reducible apply ev_methd
    assumption;walk_at "n";exact I1 _;rfl;exact judge_off (by decide +kernel);k_is;k_is;k_is;k_is;rfl
    ·walk_at "1"
     ·with_reducible apply ev_is (b:=.d (.tuple (cl.map .int)))
      (with_reducible apply ev_fgt;apply ev_callt);((with_reducible apply ev_blt);assumption;walk_at "f";rfl;k_is;exact bb_tuple;decide;decide);walk_at "1";walk_at "n";exact evs_nil;rfl;exact typ_tuple_list (by simp;walk_at "o");rfl;rfl
      rw [fgt_clause]
     ·walk_at "1"
      ·with_reducible apply ev_is (b:=.d f.dataU)
       (with_reducible apply ev_fgt);walk_at "n"
       rw [Fm.fgt_data wf]
      exact evs_nil;rfl
     rfl
    exact c_table hK (I1 _) wf (by walk_at "o") clok.len clok.nd;walk_at "k";rfl;rfl
   walk_at "n";exact cmp_str_eq tableOf_ok (by decide +kernel);(with_unfolding_all rfl)
  rw [show dueOf cA cl f = "bits" from if_neg hz]
  walk_at "2"
  ·with_reducible apply ex_assign
   walk_at "f";walk_at "d"
   ·with_reducible apply ev_ite (b:=false)
    ·walk_at "5"
     ·with_reducible apply tr_bool
      with_reducible apply tr_and2
      ·walk_at "4"
       ·with_reducible apply ev_bin
        walk_at "n"
        ·with_reducible apply ev_call
         walk_at "g"
         ·walk_at "1"
          ·with_reducible apply ev_is (b:=.d f.dataU)
           (with_reducible apply ev_fgt);walk_at "n"
           rw [Fm.fgt_data wf]
          exact evs_nil;rfl
         exact c_holding hK f wf;walk_at "k";exact hK _ _ (by k_is);rfl;rfl
        walk_at "b"
       exact ev_int;walk_at "c";(with_unfolding_all rfl)
      intro _
      walk_at "4";walk_at "n";exact ev_int;walk_at "c";(with_unfolding_all rfl)
     have hz':¬(Builtin.bitAnd (brokenOf cA) (holdOf f)=0∧(atomsOf cl f).length<13):=hz
     rw [Bool.and_eq_false_iff]
     by_cases q:Builtin.bitAnd (brokenOf cA) (holdOf f)=0
     ·right;rw [decide_eq_false_iff_not];exact fun q2=>hz ⟨q,by walk_at "o"⟩
     left;simpa using q
    intro h;cases h
    intro _
    exact ev_str
   walk_at "u";rfl
  walk_at "6";(with_reducible apply ex_ret;apply ev_cmp)
  ·with_reducible apply ev_methd
   assumption;walk_at "n";exact I1 _;rfl;exact judge_off (by decide +kernel);k_is;k_is;k_is;k_is;rfl
   ·walk_at "1"
    ·with_reducible apply ev_is (b:=.d (.tuple (cl.map .int)))
     (with_reducible apply ev_fgt;apply ev_callt);((with_reducible apply ev_blt);assumption;walk_at "f";rfl;k_is;exact bb_tuple;decide;decide);walk_at "1";walk_at "n";exact evs_nil;rfl;exact typ_tuple_list (by simp;walk_at "o");rfl;rfl
     rw [fgt_clause]
    ·walk_at "1"
     ·with_reducible apply ev_is (b:=.d f.dataU)
      (with_reducible apply ev_fgt);walk_at "n"
      rw [Fm.fgt_data wf]
     exact evs_nil;rfl
    rfl
   exact c_table hK (I1 _) wf (by walk_at "o") clok.len clok.nd;walk_at "k";rfl;rfl
  walk_at "n";exact cmp_str_eq tableOf_ok (by decide +kernel);(with_unfolding_all rfl)
end
section
noncomputable def Bits (x:Int) (p:Nat→Bool):Prop:=∃ n:Nat,x=(n:Int)∧n<2 ^ 32∧∀ r,r<32→n.testBit r=p r
theorem bits_and {x y:Int} {p q:Nat→Bool} (hx:Bits x p) (hy:Bits y q):Bits (Builtin.bitAnd x y) fun r=>p r&&q r:=by
 obtain ⟨m,rfl,hm,pm⟩:=hx
 obtain ⟨n,rfl,hn,pn⟩:=hy
 refine ⟨m &&& n,?_,Nat.and_lt_two_pow m hn,fun r hr=>?_⟩
 ·rw [bitAnd_pp (Int.natCast_nonneg m) (Int.natCast_nonneg n)];simp
 rw [Nat.testBit_and,pm r hr,pn r hr]
theorem bits_or {x y:Int} {p q:Nat→Bool} (hx:Bits x p) (hy:Bits y q):Bits (Builtin.bitOr x y) fun r=>p r||q r:=by
 obtain ⟨m,rfl,hm,pm⟩:=hx
 obtain ⟨n,rfl,hn,pn⟩:=hy
 refine ⟨m ||| n,?_,Nat.or_lt_two_pow hm hn,fun r hr=>?_⟩
 ·rw [bitOr_and,bitAnd_pp (Int.natCast_nonneg m) (Int.natCast_nonneg n)]
  have:=nat_or_add_and m n
  simp only [Int.toNat_natCast]
  walk_at "o"
 rw [Nat.testBit_or,pm r hr,pn r hr]
theorem half_sum {X Y Z:Nat} (h:X / 2+Y / 2=Z / 2) (e:X % 2+Y % 2=Z % 2):X+Y=Z:=by
 rw [← Nat.div_add_mod X 2,← Nat.div_add_mod Y 2,← Nat.div_add_mod Z 2,← h,← e,Nat.mul_add,Nat.add_add_add_comm]
theorem xor_add_and (m:Nat):∀ n:Nat,(m ^^^ n)+(m &&& n)=m ||| n:=by
 induction m using Nat.strongRecOn with
 | ind m ih=>
  intro n
  by_cases h0:m=0
  ·subst h0;simp
  have ih':=ih (m / 2) (Nat.div_lt_self (Nat.pos_of_ne_zero h0) (by decide)) (n / 2)
  rw [← Nat.xor_div_two,← Nat.and_div_two,← Nat.or_div_two] at ih'
  refine half_sum ih' ?_
  have x1:=@Nat.xor_mod_two_pow m n 1
  have a1:=@Nat.and_mod_two_pow m n 1
  have o1:=@Nat.or_mod_two_pow m n 1
  rw [Nat.pow_one] at x1 a1 o1
  rw [x1,a1,o1]
  rcases Nat.mod_two_eq_zero_or_one m with h | h <;> rcases Nat.mod_two_eq_zero_or_one n with h' | h' <;> rw [h,h'] <;> rfl
theorem bits_xor {x y:Int} {p q:Nat→Bool} (hx:Bits x p) (hy:Bits y q):Bits (Builtin.bitXor x y) fun r=>!(p r == q r):=by
 obtain ⟨m,rfl,hm,pm⟩:=hx
 obtain ⟨n,rfl,hn,pn⟩:=hy
 refine ⟨m ^^^ n,?_,Nat.xor_lt_two_pow hm hn,fun r hr=>?_⟩
 ·unfold Builtin.bitXor
  rw [bitOr_and,bitAnd_pp (Int.natCast_nonneg m) (Int.natCast_nonneg n)]
  have:=nat_or_add_and m n
  have:=xor_add_and m n
  simp only [Int.toNat_natCast]
  walk_at "o"
 rw [Nat.testBit_xor,pm r hr,pn r hr]
 show (p r ^^ q r) = !(p r == q r)
 cases p r <;> cases q r <;> rfl
theorem bits_not {x:Int} {p:Nat→Bool} (hx:Bits x p):Bits (every - x) fun r=>!p r:=by
 obtain ⟨m,rfl,hm,pm⟩:=hx
 refine ⟨2 ^ 32 - (m+1),?_,by walk_at "o",fun r hr=>?_⟩
 ·have e:every=2 ^ 32 - 1:=rfl
  rw [e]
  have h32:(2:Nat) ^ 32=4294967296:=rfl
  have h32':(2:Int) ^ 32=4294967296:=rfl
  rw [h32] at hm ⊢
  rw [h32']
  walk_at "o"
 rw [Nat.testBit_two_pow_sub_succ hm,pm r hr,decide_eq_true hr,Bool.true_and]
theorem bits_every:Bits every fun _u=>true:=⟨4294967295,rfl,by decide,by decide +kernel⟩
theorem bits_zero:Bits 0 fun _u=>false:=⟨0,rfl,by decide,fun r _u=>Nat.zero_testBit r⟩
theorem bits_col {i:Nat} (hi:i<5):Bits (colOf i) fun r=>r.testBit i:=by
 rcases five hi with rfl | rfl | rfl | rfl | rfl
 exact ⟨2863311530,by decide +kernel,by decide,by decide +kernel⟩;exact ⟨3435973836,by decide +kernel,by decide,by decide +kernel⟩;exact ⟨4042322160,by decide +kernel,by decide,by decide +kernel⟩;exact ⟨4278255360,by decide +kernel,by decide,by decide +kernel⟩;exact ⟨4294901760,by decide +kernel,by decide,by decide +kernel⟩
theorem Bits.congr {x:Int} {p q:Nat→Bool} (h:Bits x p) (e:∀ r,p r=q r):Bits x q:=(funext e:p=q)▸h
theorem bits_hold:∀ {f:Fm},f.wf→Bits (holdOf f) fun r=>f.eval fun i=>r.testBit i
 | .atom i,h=>bits_col h
 | .tt,_=>bits_every
 | .ff,_=>bits_zero
 | .not f,h=>bits_not (bits_hold (f:=f) h)
 | .or f g,h=>bits_or (bits_hold (f:=f) h.1) (bits_hold (f:=g) h.2)
 | .and f g,h=>bits_and (bits_hold (f:=f) h.1) (bits_hold (f:=g) h.2)
 | .iff f g,h=>(bits_not (bits_xor (bits_hold (f:=f) h.1) (bits_hold (f:=g) h.2))).congr fun r=>by rw [Bool.not_not];rfl
 | .xor f g,h=>bits_xor (bits_hold (f:=f) h.1) (bits_hold (f:=g) h.2)
noncomputable def idxC (c:Int):Nat:=(abs' c - 2).toNat
theorem bits_brk {cl:List Int}:(∀ c∈cl,∃ i:Nat,i<3∧abs' c=2+(i:Int))→∀ {b:Int} {p:Nat→Bool},Bits b p→Bits (cl.foldl brk b) fun r=>p r&&cl.all fun c=>r.testBit (idxC c) == decide (c<0):=by
 induction cl with
 | nil=>intro _ b p hb;exact hb.congr fun r=>by simp
 | cons c cl ih=>
  intro hm b p hb
  obtain ⟨i,hi,hc⟩:=hm c (.head _)
  have e:(abs' c - 2).toNat=i:=by walk_at "o"
  have hcol:Bits (brk b c) fun r=>p r&&(r.testBit (idxC c) == decide (c<0)):=by
   unfold brk idxC
   rw [e]
   by_cases h0:0<c
   ·rw [if_pos h0,decide_eq_false (by walk_at "o")]
    exact (bits_and hb (bits_not (bits_col (by walk_at "o")))).congr fun r=>by cases p r <;> cases r.testBit i <;> rfl
   have:c<0:=by
    have:c≠0:=by rintro rfl;have:abs' 0=0:=rfl;walk_at "o"
    walk_at "o"
   rw [if_neg h0,decide_eq_true this]
   exact (bits_and hb (bits_col (by walk_at "o"))).congr fun r=>by cases p r <;> cases r.testBit i <;> rfl
  refine (ih (fun c hc=>hm c (.tail _ hc)) hcol).congr fun r=>?_
  rw [List.all_cons,Bool.and_assoc]
theorem bits_ne_zero {x:Int} {p:Nat→Bool} (h:Bits x p):x=0↔∀ r,r<32→p r=false:=by
 obtain ⟨n,rfl,hn,pn⟩:=h
 constructor
 ·intro e r hr
  have:n=0:=by walk_at "o"
  rw [← pn r hr,this];exact Nat.zero_testBit r
 intro e
 have:n=0:=Nat.eq_of_testBit_eq fun r=>by
  rw [Nat.zero_testBit]
  by_cases hr:r<32
  ·rw [pn r hr];exact e r hr
  exact Nat.testBit_lt_two_pow (Nat.lt_of_lt_of_le hn (Nat.pow_le_pow_right (by decide) (by walk_at "o")))
 rw [this];rfl
theorem row_of (v:Nat→Bool):∀ n,∃ r,r<2 ^ n∧∀ i,i<n→r.testBit i=v i
 | 0=>⟨0,by decide,fun i h=>by walk_at "o"⟩
 | n+1=>by
  obtain ⟨r,hr,hv⟩:=row_of v n
  have hp:2 ^ (n+1)=2 ^ n+2 ^ n:=by rw [Nat.pow_succ];walk_at "o"
  cases hvn:v n with
  | false=>
   refine ⟨r,by walk_at "o",fun i hi=>?_⟩
   by_cases e:i=n
   ·subst e;rw [hvn];exact Nat.testBit_lt_two_pow hr
   exact hv i (by walk_at "o")
  | true=>
   refine ⟨2 ^ n+r,by walk_at "o",fun i hi=>?_⟩
   by_cases e:i=n
   ·subst e;rw [Nat.testBit_two_pow_add_eq,Nat.testBit_lt_two_pow hr,hvn];rfl
   rw [Nat.testBit_two_pow_add_gt (by walk_at "o")];exact hv i (by walk_at "o")
theorem bitAt_is (r p:Nat):bitAt r p=r.testBit p:=by
 unfold bitAt
 rw [Int.toNat_natCast,show ((2:Int) ^ p)=((2 ^ p:Nat):Int) by push_cast;rfl,Int.fdiv_eq_ediv_of_nonneg _ (Int.natCast_nonneg _),Int.fmod_eq_emod_of_nonneg _ (by decide),Nat.testBit_eq_decide_div_mod_eq]
 have:((r:Int) / ((2 ^ p:Nat):Int)) % 2=((r / 2 ^ p % 2:Nat):Int):=by push_cast;rfl
 rw [this]
 by_cases h:r / 2 ^ p % 2=1
 ·rw [h];rfl
 rw [decide_eq_false h,beq_eq_false_iff_ne]
 exact fun e=>h (by exact_mod_cast e)
theorem two_b (f:Bool→Bool→Bool) {a b c d:Bool} (h:a=c) (k:b=d):f a b=f c d:=h▸k▸rfl
theorem eval_congr {v v':Nat→Bool}:∀ {f:Fm},f.all (fun i=>v i=v' i)→f.eval v=f.eval v'
 | .atom i,h=>h
 | .tt,_ | .ff,_=>rfl
 | .not f,h=>congrArg (! ·) (eval_congr (f:=f) h)
 | .or f g,h=>two_b (fun a b=>(a||b)) (eval_congr (f:=f) h.1) (eval_congr (f:=g) h.2)
 | .and f g,h=>two_b (fun a b=>(a&&b)) (eval_congr (f:=f) h.1) (eval_congr (f:=g) h.2)
 | .iff f g,h=>two_b (fun a b=>(a == b)) (eval_congr (f:=f) h.1) (eval_congr (f:=g) h.2)
 | .xor f g,h=>two_b (fun a b=>!(a == b)) (eval_congr (f:=f) h.1) (eval_congr (f:=g) h.2)
theorem nodup_abs {cl:List Int} (h:(cl.map abs').Nodup) {c c':Int} (hc:c∈cl) (hc':c'∈cl) (e:abs' c=abs' c'):c=c':=by
 induction cl with
 | nil=>simp at hc
 | cons x cl ih=>
  rw [List.map_cons,List.nodup_cons] at h
  rcases List.mem_cons.mp hc with rfl | hc1 <;> rcases List.mem_cons.mp hc' with rfl | hc2
  rfl;exact absurd (List.mem_map.mpr ⟨_,hc2,e.symm⟩) h.1;exact absurd (List.mem_map.mpr ⟨_,hc1,e⟩) h.1;exact ih h.2 hc1 hc2
theorem sat_rows {cA cl:List Int} {f:Fm} (hf:f.wf) (ok:ClOk cl) (hA:∀ c∈cA,∃ i:Nat,i<3∧abs' c=2+(i:Int)) (sub:∀ c∈cA,c∈cl) (low:∀ c∈cl,∀ i:Nat,i<3→abs' c=2+(i:Int)→c∈cA) :
  ((List.range (2 ^ (freeOf cl f).length)).any (sat cl f))=true↔∃ r,r<32∧(cA.all fun c=>r.testBit (idxC c) == decide (c<0))=true∧(f.eval fun i=>r.testBit i)=true:=by
 have A:=addAll_spec hf cl_key (cl_nodup ok.nd)
 have fk:=free_key hf ok.nd
 have split:=atoms_eq hf ok.nd
 have int3:∀ (c:Int) (i:Nat),i<5→PyData.eqv (keyC c) (spotU i)=true→i<3∧abs' c=2+(i:Int):=fun c i hi e=>by
  have:=((KeyD.int (n:=6) (abs' c)).eqv (spot_key hi)).mp e
  rcases five hi with rfl | rfl | rfl | rfl | rfl
  exact ⟨by decide,PyData.int.inj this⟩;exact ⟨by decide,PyData.int.inj this⟩;exact ⟨by decide,PyData.int.inj this⟩
  ·cases this
  cases this
 rw [List.any_eq_true]
 constructor
 ·rintro ⟨r,_,hs⟩
  obtain ⟨ρ,hρ,hv⟩:=row_of (fun i=>valOf cl (freeOf cl f) r (spotU i)) 5
  refine ⟨ρ,hρ,List.all_eq_true.mpr fun c hc=>?_,?_⟩
  ·obtain ⟨i,hi,hci⟩:=hA c hc
   have e:idxC c=i:=by unfold idxC;walk_at "o"
   rw [e,hv i (by walk_at "o"),beq_iff_eq]
   unfold valOf
   cases hfd:cl.find? fun c=>PyData.eqv (keyC c) (spotU i) with
   | some c1=>
    have h1:=List.find?_some hfd
    have h2:=List.mem_of_find?_eq_some hfd
    have:=(int3 c1 i (by walk_at "o") h1).2
    rw [nodup_abs ok.nd h2 (sub c hc) (this.trans hci.symm)]
   | none=>
    have:=List.find?_eq_none.mp hfd c (sub c hc)
    exact absurd (((KeyD.int (n:=6) _).eqv (spot_key (by walk_at "o"))).mpr (by rw [spot_int hi,hci])) this
  have:f.eval (fun i=>ρ.testBit i)=f.eval fun i=>valOf cl (freeOf cl f) r (spotU i):=eval_congr (Fm.all_mono (fun i k=>hv i k.1) A.all)
  rw [this];exact hs
 rintro ⟨ρ,hρ,hall,hev⟩
 obtain ⟨r,hr,hv⟩:=row_of (fun p=>ρ.testBit (idxE spotsU ((freeOf cl f).getD p .none))) (freeOf cl f).length
 refine ⟨r,List.mem_range.mpr hr,?_⟩
 unfold sat
 rw [← hev]
 refine eval_congr (Fm.all_mono (fun i k=>?_) A.all)
 have sk:=spot_key k.1
 have hm:spotU i∈cl.map keyC++freeOf cl f:=by rw [← split];exact k.2
 unfold valOf
 cases hfd:cl.find? fun c=>PyData.eqv (keyC c) (spotU i) with
 | some c1=>
  have h1:=List.find?_some hfd
  have h2:=List.mem_of_find?_eq_some hfd
  obtain ⟨hi3,hci⟩:=int3 c1 i k.1 h1
  have:=List.all_eq_true.mp hall c1 (low c1 h2 i hi3 hci)
  have e:idxC c1=i:=by unfold idxC;walk_at "o"
  rw [e,beq_iff_eq] at this
  exact this.symm
 | none=>
  have hfree:spotU i∈freeOf cl f:=(List.mem_append.mp hm).resolve_left fun q=>by
   obtain ⟨c0,hc0,e0⟩:=List.mem_map.mp q
   exact List.find?_eq_none.mp hfd c0 hc0 (((KeyD.int (n:=6) _).eqv sk).mpr e0)
  dsimp only
  have hlt:(freeOf cl f).findIdx (fun y=>PyData.eqv y (spotU i))<(freeOf cl f).length:=List.findIdx_lt_length_of_exists ⟨_,hfree,(sk.eqv sk).mpr rfl⟩
  have e1:=List.findIdx_getElem (w:=hlt)
  have e2:(freeOf cl f).getD ((freeOf cl f).findIdx fun y=>PyData.eqv y (spotU i)) .none=spotU i:=by
   rw [List.getD_eq_getElem?_getD,List.getElem?_eq_getElem hlt]
   exact ((fk _ (List.getElem_mem hlt)).eqv sk).mp e1
  rw [bitAt_is,hv _ hlt,e2,spot_idx k.1]
theorem tab_true {dr:Nat→Int→Int} (h5:∀ k,0≤dr k 5∧dr k 5<5) (h8:∀ k,dr k 8<8) (k:Nat) (f:Fm) (hf:f.wf):tableOf (clC dr k) f=dueOf (clA dr k) (clC dr k) f:=by
 have ok:ClOk (clC dr k):=clC_ok (h8 _)
 have hA:=clA_mem (dr:=dr) (k:=k)
 have memC:∀ c,c∈clC dr k↔c∈clA dr k∨c∈strange (strangeN (dr (k+3) 8)):=fun c=>by
  have:c∈clB dr k↔c∈clA dr k∨c∈strange (strangeN (dr (k+3) 8)):=by unfold clB;exact List.mem_append
  unfold clC
  split
  ·rw [List.mem_reverse];exact this
  exact this
 have str:∀ m,m<13→∀ c∈strange m,20≤abs' c:=by decide +kernel
 have low:∀ c∈clC dr k,∀ i:Nat,i<3→abs' c=2+(i:Int)→c∈clA dr k:=fun c hc i hi e=>
  ((memC c).mp hc).resolve_right fun q=>by have:=str _ (Nat.lt_succ_of_le (strangeN_le (h8 _))) c q;walk_at "o"
 have key:=sat_rows hf ok hA (fun c hc=>(memC c).mpr (.inl hc)) low
 have bz:=bits_ne_zero (bits_and (bits_brk hA bits_every) (bits_hold hf))
 unfold tableOf dueOf
 by_cases h12:12<(atomsOf (clC dr k) f).length
 ·rw [if_pos h12,if_neg fun q=>by walk_at "o"]
 rw [if_neg h12]
 by_cases hany:((List.range (2 ^ (freeOf (clC dr k) f).length)).any (sat (clC dr k) f))=true
 ·rw [if_pos hany,if_neg]
  rintro ⟨z,_⟩
  obtain ⟨r,hr,h1,h2⟩:=key.mp hany
  have:=bz.mp z r hr
  rw [h1,h2] at this
  cases this
 rw [if_neg hany,if_pos]
 refine ⟨bz.mpr fun r hr=>?_,by walk_at "o"⟩
 by_cases h1:((clA dr k).all fun c=>r.testBit (idxC c) == decide (c<0))=true
 ·by_cases h2:(f.eval fun i=>r.testBit i)=true
  exact absurd (key.mpr ⟨r,hr,h1,h2⟩) hany
  rw [Bool.not_eq_true] at h2;rw [h2,Bool.and_false]
 rw [Bool.not_eq_true] at h1;rw [h1];rfl
end
section
structure Tm where
 op:Str
 args:List Int
 sort:Int
 data:Int
 deriving DecidableEq
set_option genInjectivity false in
structure Bk where
 tms:List Tm
 sns:List Str
 sws:List Int
 fns:List Str
 frs:List Int
 bvs:List (Int × Int)
noncomputable def findFrom (t:Tm):Nat→List Tm→Nat
 | _,[]=>0
 | i,u::r=>if u=t then i else findFrom t (i+1) r
noncomputable def Bk.find (bk:Bk) (t:Tm):Nat:=findFrom t 1 (bk.tms.drop 1)
noncomputable def Bk.make (bk:Bk) (t:Tm):Nat × Bk:=if bk.find t=0 then (bk.tms.length,{ bk with tms:=bk.tms++[t] }) else (bk.find t,bk)
theorem findFrom_at {t:Tm}:∀ {l:List Tm} {i:Nat},findFrom t i l≠0→i≤findFrom t i l∧l[findFrom t i l - i]?=some t
 | [],i,h=>absurd rfl h
 | u::r,i,h=>by
  rw [findFrom] at h ⊢
  by_cases e:u=t
  ·rw [if_pos e];subst e;exact ⟨Nat.le_refl _,by rw [Nat.sub_self];rfl⟩
  rw [if_neg e] at h ⊢
  obtain ⟨h1,h2⟩:=findFrom_at h
  refine ⟨by walk_at "o",?_⟩
  obtain ⟨d,hd⟩:∃ d,findFrom t (i+1) r=i+1+d:=⟨findFrom t (i+1) r - (i+1),by walk_at "o"⟩
  rw [hd] at h2 ⊢
  rw [show i+1+d - i=d+1 by walk_at "o",List.getElem?_cons_succ]
  rwa [show i+1+d - (i+1)=d by walk_at "o"] at h2
theorem Bk.find_at {bk:Bk} {t:Tm} (h:bk.find t≠0):bk.tms[bk.find t]?=some t:=by
 obtain ⟨h1,h2⟩:=findFrom_at h
 have h2:(bk.tms.drop 1)[bk.find t - 1]?=some t:=h2
 rw [List.getElem?_drop] at h2
 have h1:1≤bk.find t:=h1
 rwa [show 1+(bk.find t - 1)=bk.find t by walk_at "o"] at h2
theorem Bk.make_at {bk:Bk} {t:Tm}:(bk.make t).2.tms[(bk.make t).1]?=some t:=by
 unfold Bk.make
 by_cases h:bk.find t=0
 ·rw [if_pos h];dsimp only;rw [List.getElem?_append_right (Nat.le_refl _),Nat.sub_self];rfl
 rw [if_neg h];exact Bk.find_at h
theorem Bk.make_keep {bk:Bk} {t u:Tm} {i:Nat} (h:bk.tms[i]?=some u):(bk.make t).2.tms[i]?=some u:=by
 unfold Bk.make
 split
 ·exact (List.getElem?_append_left (List.getElem?_eq_some_iff.mp h).1).trans h
 exact h
theorem Bk.make_sws {bk:Bk} {t:Tm}:(bk.make t).2.sws=bk.sws:=by unfold Bk.make;split <;> rfl
theorem Bk.make_len {bk:Bk} {t:Tm}:(bk.make t).2.tms.length≤bk.tms.length+1:=by unfold Bk.make;split <;> simp
@[reducible] noncomputable def bitT (t:Nat) (i:Nat):Tm:=⟨"bit",[(t:Int)],0,(i:Int)⟩
@[reducible] noncomputable def xorT (a b:Nat):Tm:=⟨"xor",[(a:Int),(b:Int)],0,0⟩
@[reducible] noncomputable def bitK (bk:Bk) (t i:Nat):Nat:=bk.find (bitT t i)
noncomputable def there (bk:Bk) (cl:List Int) (a b:Nat):List Int:=[((bk.find (xorT a b):Nat):Int),((bk.find (xorT b a):Nat):Int)].filter fun one=>one != 0&&cl.contains one
noncomputable def judgeLoop (bk:Bk) (cl:List Int) (x y:Nat):List Nat→List Int→Str
 | [],line=>if isort cl=isort line then "" else "bits"
 | i::r,line=>
  if bitK bk x i=0∨bitK bk y i=0 then "bits"
  else match there bk cl (bitK bk x i) (bitK bk y i) with
   | []=>"bits"
   | e::_=>judgeLoop bk cl x y r (line++[e])
theorem ite_same {p q:Prop} [Decidable p] [Decidable q] {α:Type} {a b:α} (h:p↔q):(if p then a else b)=if q then a else b:=by
 by_cases hp:p
 ·rw [if_pos hp,if_pos (h.mp hp)]
 rw [if_neg hp,if_neg fun k=>hp (h.mpr k)]
noncomputable def judgeRows (cl:List Int):List (List Int)→List Int→Str
 | [],line=>if isort cl=isort line then "" else "bits"
 | row::r,line=>match row.filter (fun one=>cl.contains one) with
  | []=>"bits"
  | e::_=>judgeRows cl r (line++[e])
noncomputable def RowRel (bk:Bk) (x y i:Nat) (row:List Int):Prop:=
 (row=[]∧(bitK bk x i=0∨bitK bk y i=0))∨(¬(bitK bk x i=0∨bitK bk y i=0)∧row=[((bk.find (xorT (bitK bk x i) (bitK bk y i)):Nat):Int),((bk.find (xorT (bitK bk y i) (bitK bk x i)):Nat):Int)].filter fun one=>one != 0)
theorem loop_rows {bk:Bk} {cl:List Int} {x y:Nat}:∀ {is:List Nat} {rows:List (List Int)} {line:List Int},rows.length=is.length→(∀ (n i:Nat) row,is[n]?=some i→rows[n]?=some row→RowRel bk x y i row)→judgeLoop bk cl x y is line=judgeRows cl rows line
 | [],[],line,_,_=>rfl
 | i::is,row::rows,line,hl,h=>by
  have h0:=h 0 i row rfl rfl
  have ih:∀ line,judgeLoop bk cl x y is line=judgeRows cl rows line:=fun line=>loop_rows (by simpa using hl) fun n i row a b=>h (n+1) i row (by simpa using a) (by simpa using b)
  rw [judgeLoop,judgeRows]
  rcases h0 with ⟨rfl,h0⟩ | ⟨h0,hr⟩
  ·rw [if_pos h0];rfl
  rw [if_neg h0]
  have e:there bk cl (bitK bk x i) (bitK bk y i)=row.filter (fun one=>cl.contains one):=by
   rw [hr,List.filter_filter]
   unfold there
   congr 1
   funext one
   exact Bool.and_comm _ _
  rw [e]
  cases row.filter (fun one=>cl.contains one) with
  | nil=>rfl
  | cons e _=>exact ih _
noncomputable def justRow (cl row:List Int):Bool:=(row.filter fun one=>cl.contains one).length == 1
theorem count_rows {cl:List Int}:∀ {rows:List (List Int)},rows.all (justRow cl)=true→(rows.flatten.filter fun one=>cl.contains one).length=rows.length
 | [],_=>rfl
 | row::r,h=>by
  rw [List.all_cons,Bool.and_eq_true] at h
  have h1:(row.filter fun one=>cl.contains one).length=1:=by simpa [justRow] using h.1
  rw [List.flatten_cons,List.filter_append,List.length_append,h1,count_rows h.2,List.length_cons];walk_at "o"
theorem perm_of_sub:∀ {l l':List Int},l.Nodup→(∀ x∈l,x∈l')→l'.length=l.length→l'.Perm l
 | [],l',_,_,hl=>by rw [List.length_eq_zero_iff.mp hl]
 | a::l,l',hn,hs,hl=>by
  rw [List.nodup_cons] at hn
  have ha:=hs a (.head _)
  have p:=List.perm_cons_erase ha
  refine p.trans (List.Perm.cons a (perm_of_sub hn.2 (fun x hx=>?_) ?_))
  ·have:=p.mem_iff.mp (hs x (.tail _ hx))
   rcases List.mem_cons.mp this with e | h
   exact absurd (e▸hx) hn.1;exact h
  have:=p.length_eq
  rw [List.length_cons] at this hl
  walk_at "o"
theorem rows_due {cl:List Int}:∀ {rows:List (List Int)} {line:List Int},(line++rows.flatten).Nodup →
  judgeRows cl rows line=if rows.all (justRow cl)=true∧(∀ x∈line,x∈cl)∧cl.length=line.length+rows.length then ("" : Str) else "bits"
 | [],line,hn=>by
  rw [judgeRows]
  have hn:line.Nodup:=by simpa using hn
  by_cases h:isort cl=isort line
  ·rw [if_pos h,if_pos]
   have p:=isort_perm.mp h
   exact ⟨rfl,fun x hx=>p.mem_iff.mpr hx,p.length_eq⟩
  rw [if_neg h,if_neg]
  rintro ⟨_,h1,h2⟩
  exact h (isort_perm.mpr (perm_of_sub hn h1 h2))
 | row::r,line,hn=>by
  rw [judgeRows]
  cases hf:row.filter (fun one=>cl.contains one) with
  | nil=>
   dsimp only
   rw [if_neg]
   rintro ⟨h1,_⟩
   rw [List.all_cons,Bool.and_eq_true] at h1
   have:=h1.1
   unfold justRow at this
   rw [hf] at this
   cases this
  | cons e rest=>
   dsimp only
   rw [List.flatten_cons] at hn
   have he:e∈row.filter fun one=>cl.contains one:=by rw [hf];exact .head _
   have hec:e∈cl:=by have:=(List.mem_filter.mp he).2;simpa using this
   have her:e∈row:=(List.mem_filter.mp he).1
   have hn':(line++[e]++r.flatten).Nodup:=by
    refine hn.sublist ?_
    rw [List.append_assoc]
    refine (List.Sublist.refl line).append (List.Sublist.append ?_ (List.Sublist.refl _))
    exact List.singleton_sublist.mpr her
   rw [rows_due hn']
   by_cases hr:rest=[]
   ·subst hr
    have hj:justRow cl row=true:=by unfold justRow;rw [hf];rfl
    rw [List.all_cons,hj,Bool.true_and]
    refine ite_same ⟨fun h=>⟨h.1,fun x hx=>h.2.1 x (List.mem_append_left _ hx),by have:=h.2.2;simp at this ⊢;walk_at "o"⟩,fun h=>⟨h.1,fun x hx=>?_,by have:=h.2.2;simp at this ⊢;walk_at "o"⟩⟩
    rcases List.mem_append.mp hx with hx | hx
    exact h.2.1 x hx
    rw [List.mem_singleton.mp hx];exact hec
   have hj:¬justRow cl row=true:=by
    unfold justRow;rw [hf]
    cases rest with
    | nil=>exact absurd rfl hr
    | cons _ _=>simp
   rw [if_neg,if_neg]
   ·rintro ⟨h1,_⟩
    rw [List.all_cons,Bool.and_eq_true] at h1
    exact hj h1.1
   rintro ⟨h1,h2,h3⟩
   have c:=count_rows h1
   have len:=List.Nodup.length_le_of_subset (l₁:=line++(row++r.flatten).filter fun one=>cl.contains one) (l₂:=cl) (hn.sublist ((List.Sublist.refl line).append List.filter_sublist)) fun x hx=>by
    rcases List.mem_append.mp hx with hx | hx
    exact h2 x (List.mem_append_left _ hx)
    have:=(List.mem_filter.mp hx).2;simpa using this
   rw [List.length_append,List.filter_append,List.length_append,hf,c] at len
   rw [List.length_append] at h3
   simp only [List.length_cons,List.length_nil] at len h3
   have:1≤rest.length:=by
    cases rest with
    | nil=>exact absurd rfl hr
    | cons _ _=>simp
   walk_at "o"
end
section
@[reducible] noncomputable def T3:List Tm:=[⟨"",[],0,0⟩,⟨"true",[],0,0⟩,⟨"false",[],0,0⟩]
@[reducible] noncomputable def T6:List Tm:=[⟨"",[],0,0⟩,⟨"true",[],0,0⟩,⟨"false",[],0,0⟩,⟨"app",[],3,0⟩,⟨"app",[],3,1⟩,⟨"=",[3,4],0,0⟩]
noncomputable def bvName (w:Int):Str:=Str.empty ++ "(_ BitVec "++Str.ofString (toString w) ++ ")"
@[reducible] noncomputable def bk0:Bk:=⟨T3,["Bool","Int","Real"],[0,0,0],[],[],[]⟩
@[reducible] noncomputable def bkT (w:Nat):Bk:=⟨T6,["Bool","Int","Real",bvName w],[0,0,0,w],["x","y"],[3,3],[((w:Int),3)]⟩
noncomputable def rowK (q:Nat) (bk:Bk) (i:Nat):List Int × Bk:=
 if q=0 then ([],(bk.make (bitT 3 i)).2)
 else
  let a:=bk.make (bitT 3 i)
  let b:=a.2.make (bitT 4 i)
  if q=2 then ([((b.2.make (xorT b.1 a.1)).1:Int)],(b.2.make (xorT b.1 a.1)).2)
  else if q=3 then ([((b.2.make (xorT a.1 b.1)).1:Int),(((b.2.make (xorT a.1 b.1)).2.make (xorT b.1 a.1)).1:Int)],((b.2.make (xorT a.1 b.1)).2.make (xorT b.1 a.1)).2)
  else ([((b.2.make (xorT a.1 b.1)).1:Int)],(b.2.make (xorT a.1 b.1)).2)
noncomputable def rowsK:List Nat→Nat→Bk→List (List Int) × Bk
 | [],_,bk=>([],bk)
 | q::qs,i,bk=>((rowK q bk i).1::(rowsK qs (i+1) (rowK q bk i).2).1,(rowsK qs (i+1) (rowK q bk i).2).2)
noncomputable def freshC (bk:Bk) (name:Str) (s:Int):Nat × Bk:=({ bk with fns:=bk.fns++[name],frs:=bk.frs++[s] }:Bk).make ⟨"app",[],s,(bk.fns.length:Int)⟩
noncomputable def bkTw (tw:Bool) (bk:Bk):Bk:=if tw then (bk.make (bitT 3 0)).2 else bk
noncomputable def bkP (tw:Bool) (bk:Bk):Nat × Bk:=freshC (bkTw tw bk) "p" 0
noncomputable def bkQ (tw:Bool) (bk:Bk):Nat × Bk:=freshC (bkP tw bk).2 "q" 0
noncomputable def eqT (a b:Nat):Tm:=⟨"=",[((min a b:Nat):Int),((max a b:Nat):Int)],0,0⟩
noncomputable def bkE (tw:Bool) (bk:Bk):Nat × Bk:=(bkQ tw bk).2.make (eqT (bkP tw bk).1 (bkQ tw bk).1)
structure Fine (w:Nat) (rows:List (List Int)) (bk:Bk):Prop where
 len:rows.length=w
 rel:∀ i,i<w→RowRel bk 3 4 i (rows.getD i [])
 nd:((5:Int)::rows.flatten).Nodup
noncomputable def tuples:Nat→List (List Nat)
 | 0=>[[]]
 | n+1=>(tuples n).flatMap fun l=>[0::l,1::l,2::l,3::l]
theorem mem_tuples:∀ {n:Nat} {l:List Nat},l.length=n→(∀ q∈l,q<4)→l∈tuples n
 | 0,l,h,_=>by rw [List.length_eq_zero_iff.mp h];exact .head _
 | n+1,[],h,_=>by cases h
 | n+1,q::l,h,h4=>by
  unfold tuples
  refine List.mem_flatMap.mpr ⟨l,mem_tuples (by simpa using h) fun q hq=>h4 q (.tail _ hq),?_⟩
  have:q<4:=h4 q (.head _)
  have:q=0∨q=1∨q=2∨q=3:=by walk_at "o"
  rcases this with rfl | rfl | rfl | rfl <;> simp
@[reducible] noncomputable def relB (bk:Bk) (i:Nat) (row:List Int):Bool:=
 if bitK bk 3 i=0∨bitK bk 4 i=0 then row == [] else row == [((bk.find (xorT (bitK bk 3 i) (bitK bk 4 i)):Nat):Int),((bk.find (xorT (bitK bk 4 i) (bitK bk 3 i)):Nat):Int)].filter fun one=>one != 0
theorem rel_of {bk:Bk} {i:Nat} {row:List Int} (h:relB bk i row=true):RowRel bk 3 4 i row:=by
 unfold relB at h
 by_cases h0:bitK bk 3 i=0∨bitK bk 4 i=0
 ·rw [if_pos h0] at h;exact .inl ⟨beq_iff_eq.mp h,h0⟩
 rw [if_neg h0] at h;exact .inr ⟨h0,beq_iff_eq.mp h⟩
@[reducible] noncomputable def fineB (w:Nat) (qs:List Nat) (tw:Bool):Bool:=
 let r:=rowsK qs 0 (bkT w)
 let bk:=(bkE tw r.2).2
 r.1.length == w&&(List.range w).all (fun i=>relB bk i (r.1.getD i []))&&decide (((5:Int)::r.1.flatten).Nodup)
theorem fine_1:∀ qs∈tuples 1,∀ tw∈[true,false],fineB 1 qs tw=true:=by decide +kernel
theorem fine_2:∀ qs∈tuples 2,∀ tw∈[true,false],fineB 2 qs tw=true:=by decide +kernel
theorem fine_3:∀ qs∈tuples 3,∀ tw∈[true,false],fineB 3 qs tw=true:=by decide +kernel
theorem fine_is {w:Nat} (hw:w=1∨w=2∨w=3) {qs:List Nat} (hl:qs.length=w) (h4:∀ q∈qs,q<4) (tw:Bool):Fine w (rowsK qs 0 (bkT w)).1 (bkE tw (rowsK qs 0 (bkT w)).2).2:=by
 have ht:tw∈[true,false]:=by cases tw <;> simp
 have m:=mem_tuples hl h4
 have:fineB w qs tw=true:=by
  rcases hw with rfl | rfl | rfl
  exact fine_1 qs m tw ht;exact fine_2 qs m tw ht;exact fine_3 qs m tw ht
 unfold fineB at this
 simp only [Bool.and_eq_true,beq_iff_eq,List.all_eq_true,List.mem_range,decide_eq_true_eq] at this
 exact ⟨this.1.1,fun i hi=>rel_of (this.1.2 i hi),this.2⟩
noncomputable def dueU (cl:List Int) (rows:List (List Int)) (w:Nat):Str:=if (rows.all (justRow cl)=true∧(5:Int)∈cl∧cl.length=w+1) then "" else "bits"
theorem judge_due {w:Nat} {rows:List (List Int)} {bk:Bk} (F:Fine w rows bk) (cl:List Int):judgeLoop bk cl 3 4 (List.range w) [5]=dueU cl rows w:=by
 rw [loop_rows (rows:=rows) (by rw [F.len,List.length_range]) (fun n i row a b=>?_),rows_due F.nd]
 ·refine ite_same ?_
  rw [F.len]
  constructor
  ·rintro ⟨a,b,c⟩;exact ⟨a,b 5 (.head _),by rw [c];exact Nat.add_comm _ _⟩
  rintro ⟨a,b,c⟩;exact ⟨a,fun x hx=>by rw [List.mem_singleton.mp hx];exact b,by rw [c];exact Nat.add_comm _ _⟩
 obtain ⟨hn,e⟩:=List.getElem?_eq_some_iff.mp a
 rw [List.getElem_range] at e
 subst e
 rw [List.length_range] at hn
 have:=F.rel n hn
 rw [List.getD_eq_getElem?_getD,b] at this
 exact this
end
section
set_option genInjectivity false in
structure BankD where
 b:Addr
 d:Addr
 sn:Addr
 sw:Addr
 fn:Addr
 fa:Addr
 fr:Addr
 to:Addr
 ta:Addr
 ts:Addr
 td:Addr
 nb:Addr
 bv:Addr
set_option genInjectivity false in
structure Raw where
 (sn sw fn fa fr to ta ts td:List PyData)
 (nb bv:List (PyData × AV))
noncomputable def bankKv (D:BankD):List (PyData × AV):=[(.str "sort_names",.v (.ref D.sn)),(.str "sort_widths",.v (.ref D.sw)),(.str "fun_names",.v (.ref D.fn)),(.str "fun_args",.v (.ref D.fa)),(.str "fun_results",.v (.ref D.fr)),(.str "fresh_count",.d (.int 0)),(.str "term_ops",.v (.ref D.to)),(.str "term_args",.v (.ref D.ta)),(.str "term_sorts",.v (.ref D.ts)),(.str "term_datas",.v (.ref D.td)),(.str "numbers",.v (.ref D.nb)),(.str "true_number",.d (.int 1)),(.str "false_number",.d (.int 2)),(.str "bv_numbers",.v (.ref D.bv))]
@[reducible] noncomputable def bankKeys:List PyData:=[.str "sort_names",.str "sort_widths",.str "fun_names",.str "fun_args",.str "fun_results",.str "fresh_count",.str "term_ops",.str "term_args",.str "term_sorts",.str "term_datas",.str "numbers",.str "true_number",.str "false_number",.str "bv_numbers"]
noncomputable def lk (T:List (Addr × Mut)) (x:Option Mut) (a:Addr):Option Mut:=T.foldr (fun p acc=>if a=p.1 then some p.2 else acc) x
theorem lk_off {T:List (Addr × Mut)} {x:Option Mut} {a:Addr} (h:a∉T.map (·.1)):lk T x a=x:=by
 induction T with
 | nil=>rfl
 | cons p T ih=>
  rw [List.map_cons,List.mem_cons,not_or] at h
  exact (if_neg h.1).trans (ih h.2)
theorem lk_in {T:List (Addr × Mut)} {x y:Option Mut} {a:Addr} (h:a∈T.map (·.1)):lk T x a=lk T y a:=by
 induction T with
 | nil=>simp at h
 | cons p T ih=>
  by_cases e:a=p.1
  exact (if_pos e).trans (if_pos e).symm;exact (if_neg e).trans ((ih ((List.mem_cons.mp h).resolve_left e)).trans (if_neg e).symm)
theorem lk_get {T:List (Addr × Mut)} (nd:(T.map (·.1)).Nodup) {x:Option Mut} {a:Addr} {m:Mut}:∀ {i:Nat},T[i]?=some (a,m)→lk T x a=some m:=by
 induction T with
 | nil=>intro i e;cases e
 | cons p T ih=>
  intro i e
  cases i with
  | zero=>cases e;exact if_pos rfl
  | succ i=>
   have nd:=List.nodup_cons.mp nd
   have ne:a≠p.1:=fun e'=>nd.1 (List.mem_map.mpr ⟨(a,m),List.mem_of_getElem? (i:=i) e,e'⟩)
   exact (if_neg ne).trans (ih nd.2 (i:=i) e)
theorem lk_put {T:List (Addr × Mut)} (nd:(T.map (·.1)).Nodup) {x:Option Mut} {a b:Addr} {m m0:Mut}:∀ {i:Nat},T[i]?=some (a,m0)→(if b=a then some m else lk T x b)=lk (T.set i (a,m)) x b:=by
 induction T with
 | nil=>intro i e;cases e
 | cons p T ih=>
  intro i e
  cases i with
  | zero=>
   cases e
   by_cases k:b=a
   exact (if_pos k).trans (if_pos k).symm;exact (if_neg k).trans ((if_neg k).trans (if_neg k).symm)
  | succ i=>
   have nd:=List.nodup_cons.mp nd
   have ne:a≠p.1:=fun e'=>nd.1 (List.mem_map.mpr ⟨(a,m0),List.mem_of_getElem? (i:=i) e,e'⟩)
   by_cases k:b=p.1
   exact (if_neg fun e'=>ne (e'.symm.trans k)).trans ((if_pos k).trans (if_pos k).symm)
   refine Eq.trans ?_ ((ih nd.2 (i:=i) e).trans (if_neg k).symm)
   by_cases k':b=a
   exact (if_pos k').trans (if_pos k').symm;exact (if_neg k').trans ((if_neg k).trans (if_neg k').symm)
noncomputable def bTab (D:BankD) (r:Raw):List (Addr × Mut):=[(D.b,.raw ⟨.ref 628,some D.d,.plain,#[]⟩),(D.d,.dict (bankKv D)),(D.sn,.list r.sn),(D.sw,.list r.sw),(D.fn,.list r.fn),(D.fa,.list r.fa),(D.fr,.list r.fr),(D.to,.list r.to),(D.ta,.list r.ta),(D.ts,.list r.ts),(D.td,.list r.td),(D.nb,.dict r.nb),(D.bv,.dict r.bv)]
noncomputable def setRaw (D:BankD) (σ:Sto) (r:Raw):Sto:=fun a=>lk (bTab D r) (σ a) a
noncomputable def BankD.all (D:BankD):List Addr:=[D.b,D.d,D.sn,D.sw,D.fn,D.fa,D.fr,D.to,D.ta,D.ts,D.td,D.nb,D.bv]
structure BOk (R:Addr→Prop) (D:BankD):Prop where
 nd:D.all.Nodup
 inn:∀ a∈D.all,R a
 s_nb:(D.nb == sysModules)=false
 s_bv:(D.bv == sysModules)=false
variable {R:Addr→Prop} {D:BankD} {σ:Sto} {r:Raw}
theorem BOk.at (h:BOk R D) {a:Addr} {i:Nat} (e:D.all[i]?=some a):R a:=h.inn a (List.mem_of_getElem? e)
theorem BOk.r_b (h:BOk R D):R D.b:=h.at (i:=0) rfl
theorem BOk.r_d (h:BOk R D):R D.d:=h.at (i:=1) rfl
theorem BOk.r_sn (h:BOk R D):R D.sn:=h.at (i:=2) rfl
theorem BOk.r_sw (h:BOk R D):R D.sw:=h.at (i:=3) rfl
theorem BOk.r_fn (h:BOk R D):R D.fn:=h.at (i:=4) rfl
theorem BOk.r_fa (h:BOk R D):R D.fa:=h.at (i:=5) rfl
theorem BOk.r_fr (h:BOk R D):R D.fr:=h.at (i:=6) rfl
theorem BOk.r_to (h:BOk R D):R D.to:=h.at (i:=7) rfl
theorem BOk.r_ta (h:BOk R D):R D.ta:=h.at (i:=8) rfl
theorem BOk.r_ts (h:BOk R D):R D.ts:=h.at (i:=9) rfl
theorem BOk.r_td (h:BOk R D):R D.td:=h.at (i:=10) rfl
theorem BOk.r_nb (h:BOk R D):R D.nb:=h.at (i:=11) rfl
theorem BOk.r_bv (h:BOk R D):R D.bv:=h.at (i:=12) rfl
theorem nd_ne {l:List Addr} (h:l.Nodup) {i j:Nat} {a b:Addr} (hi:l[i]?=some a) (hj:l[j]?=some b) (hij:i≠j):a≠b:=by
 rintro rfl
 obtain ⟨h1,e1⟩:=List.getElem?_eq_some_iff.mp hi
 obtain ⟨h2,e2⟩:=List.getElem?_eq_some_iff.mp hj
 exact hij ((List.getElem_inj h).mp (e1.trans e2.symm))
theorem BOk.get (h:BOk R D) {a:Addr} {m:Mut} {i:Nat} (e:(bTab D r)[i]?=some (a,m)):setRaw D σ r a=some m:=lk_get (T:=bTab D r) h.nd e
theorem BOk.put (h:BOk R D) {r':Raw} {a:Addr} {m m0:Mut} {i:Nat} (e:(bTab D r)[i]?=some (a,m0)) (e':(bTab D r).set i (a,m)=bTab D r'):Nz.put (setRaw D σ r) a m=setRaw D σ r':=funext fun b=>(lk_put (T:=bTab D r) h.nd e).trans (congrArg (fun T=>lk T (σ b) b) e')
theorem BOk.g_b (h:BOk R D):setRaw D σ r D.b=some (.raw ⟨.ref 628,some D.d,.plain,#[]⟩):=h.get (i:=0) rfl
theorem BOk.g_d (h:BOk R D):setRaw D σ r D.d=some (.dict (bankKv D)):=h.get (i:=1) rfl
theorem BOk.g_sn (h:BOk R D):setRaw D σ r D.sn=some (.list r.sn):=h.get (i:=2) rfl
theorem BOk.g_sw (h:BOk R D):setRaw D σ r D.sw=some (.list r.sw):=h.get (i:=3) rfl
theorem BOk.g_fn (h:BOk R D):setRaw D σ r D.fn=some (.list r.fn):=h.get (i:=4) rfl
theorem BOk.g_fa (h:BOk R D):setRaw D σ r D.fa=some (.list r.fa):=h.get (i:=5) rfl
theorem BOk.g_fr (h:BOk R D):setRaw D σ r D.fr=some (.list r.fr):=h.get (i:=6) rfl
theorem BOk.g_to (h:BOk R D):setRaw D σ r D.to=some (.list r.to):=h.get (i:=7) rfl
theorem BOk.g_ta (h:BOk R D):setRaw D σ r D.ta=some (.list r.ta):=h.get (i:=8) rfl
theorem BOk.g_ts (h:BOk R D):setRaw D σ r D.ts=some (.list r.ts):=h.get (i:=9) rfl
theorem BOk.g_td (h:BOk R D):setRaw D σ r D.td=some (.list r.td):=h.get (i:=10) rfl
theorem BOk.g_nb (h:BOk R D):setRaw D σ r D.nb=some (.dict r.nb):=h.get (i:=11) rfl
theorem BOk.g_bv (h:BOk R D):setRaw D σ r D.bv=some (.dict r.bv):=h.get (i:=12) rfl
theorem BOk.p_sn (h:BOk R D) {x:List PyData}:Nz.put (setRaw D σ r) D.sn (.list x)=setRaw D σ { r with sn:=x }:=h.put (i:=2) rfl rfl
theorem BOk.p_sw (h:BOk R D) {x:List PyData}:Nz.put (setRaw D σ r) D.sw (.list x)=setRaw D σ { r with sw:=x }:=h.put (i:=3) rfl rfl
theorem BOk.p_fn (h:BOk R D) {x:List PyData}:Nz.put (setRaw D σ r) D.fn (.list x)=setRaw D σ { r with fn:=x }:=h.put (i:=4) rfl rfl
theorem BOk.p_fa (h:BOk R D) {x:List PyData}:Nz.put (setRaw D σ r) D.fa (.list x)=setRaw D σ { r with fa:=x }:=h.put (i:=5) rfl rfl
theorem BOk.p_fr (h:BOk R D) {x:List PyData}:Nz.put (setRaw D σ r) D.fr (.list x)=setRaw D σ { r with fr:=x }:=h.put (i:=6) rfl rfl
theorem BOk.p_to (h:BOk R D) {x:List PyData}:Nz.put (setRaw D σ r) D.to (.list x)=setRaw D σ { r with to:=x }:=h.put (i:=7) rfl rfl
theorem BOk.p_ta (h:BOk R D) {x:List PyData}:Nz.put (setRaw D σ r) D.ta (.list x)=setRaw D σ { r with ta:=x }:=h.put (i:=8) rfl rfl
theorem BOk.p_ts (h:BOk R D) {x:List PyData}:Nz.put (setRaw D σ r) D.ts (.list x)=setRaw D σ { r with ts:=x }:=h.put (i:=9) rfl rfl
theorem BOk.p_td (h:BOk R D) {x:List PyData}:Nz.put (setRaw D σ r) D.td (.list x)=setRaw D σ { r with td:=x }:=h.put (i:=10) rfl rfl
theorem BOk.p_nb (h:BOk R D) {x:List (PyData × AV)}:Nz.put (setRaw D σ r) D.nb (.dict x)=setRaw D σ { r with nb:=x }:=h.put (i:=11) rfl rfl
theorem BOk.p_bv (h:BOk R D) {x:List (PyData × AV)}:Nz.put (setRaw D σ r) D.bv (.dict x)=setRaw D σ { r with bv:=x }:=h.put (i:=12) rfl rfl
theorem kvGet_idx {kvs:List (PyData × AV)} {ks:List PyData} {k k':PyData} {v:AV} {i:Nat} (e:kvs.map (·.1)=ks) (h:(ks.findIdx? fun k'=>PyData.eqv k' k)=some i) (hi:kvs[i]?=some (k',v)):kvGet kvs k=some v:=by
 have h2:keyAt kvs k=some i:=by subst e;rw [List.findIdx?_map] at h;exact h
 obtain ⟨p,hp,hg⟩:=kvGet_some h2
 rw [hi] at hp;cases hp;exact hg
theorem bkv_sn:kvGet (bankKv D) (.str "sort_names")=some (.v (.ref D.sn)):=kvGet_idx (ks:=bankKeys) rfl (by decide +kernel) (i:=0) rfl
theorem bkv_sw:kvGet (bankKv D) (.str "sort_widths")=some (.v (.ref D.sw)):=kvGet_idx (ks:=bankKeys) rfl (by decide +kernel) (i:=1) rfl
theorem bkv_fn:kvGet (bankKv D) (.str "fun_names")=some (.v (.ref D.fn)):=kvGet_idx (ks:=bankKeys) rfl (by decide +kernel) (i:=2) rfl
theorem bkv_fa:kvGet (bankKv D) (.str "fun_args")=some (.v (.ref D.fa)):=kvGet_idx (ks:=bankKeys) rfl (by decide +kernel) (i:=3) rfl
theorem bkv_fr:kvGet (bankKv D) (.str "fun_results")=some (.v (.ref D.fr)):=kvGet_idx (ks:=bankKeys) rfl (by decide +kernel) (i:=4) rfl
theorem bkv_to:kvGet (bankKv D) (.str "term_ops")=some (.v (.ref D.to)):=kvGet_idx (ks:=bankKeys) rfl (by decide +kernel) (i:=6) rfl
theorem bkv_ta:kvGet (bankKv D) (.str "term_args")=some (.v (.ref D.ta)):=kvGet_idx (ks:=bankKeys) rfl (by decide +kernel) (i:=7) rfl
theorem bkv_ts:kvGet (bankKv D) (.str "term_sorts")=some (.v (.ref D.ts)):=kvGet_idx (ks:=bankKeys) rfl (by decide +kernel) (i:=8) rfl
theorem bkv_td:kvGet (bankKv D) (.str "term_datas")=some (.v (.ref D.td)):=kvGet_idx (ks:=bankKeys) rfl (by decide +kernel) (i:=9) rfl
theorem bkv_nb:kvGet (bankKv D) (.str "numbers")=some (.v (.ref D.nb)):=kvGet_idx (ks:=bankKeys) rfl (by decide +kernel) (i:=10) rfl
theorem bkv_bv:kvGet (bankKv D) (.str "bv_numbers")=some (.v (.ref D.bv)):=kvGet_idx (ks:=bankKeys) rfl (by decide +kernel) (i:=13) rfl
theorem bkv_true:kvGet (bankKv D) (.str "true_number")=some (.d (.int 1)):=kvGet_idx (ks:=bankKeys) rfl (by decide +kernel) (i:=11) rfl
theorem bkv_off {k:PyData} (h:(bankKeys.all fun k'=>!PyData.eqv k' k)=true):kvGet (bankKv D) k=none:=kvGet_off bankKeys rfl h
theorem bkv_str:strKeys (bankKv D)=true:=rfl
theorem BOk.obj (h:BOk R D):Obj' R (setRaw D σ r) D.b 628 D.d (bankKv D):=⟨h.r_b,h.g_b,h.r_d,h.g_d⟩
variable {B:Base} {lo:∀ a,R a→B.h₁.get? a=none}
theorem bact_sn (h:BOk R D) {x:PyData} (hz:r.sn.length≤1000000):Act (B.sys R lo) 0 [.v (.ref D.sn),.d x] (setRaw D σ r) (fun vs=>call (.builtin "list.append") vs) (.d .none) (setRaw D σ { r with sn:=r.sn++[x] }):=by
 have:=act_append (lo:=lo) (x:=x) h.r_sn (h.g_sn (σ:=σ) (r:=r)) hz
 rwa [h.p_sn] at this
theorem bact_sw (h:BOk R D) {x:PyData} (hz:r.sw.length≤1000000):Act (B.sys R lo) 0 [.v (.ref D.sw),.d x] (setRaw D σ r) (fun vs=>call (.builtin "list.append") vs) (.d .none) (setRaw D σ { r with sw:=r.sw++[x] }):=by
 have:=act_append (lo:=lo) (x:=x) h.r_sw (h.g_sw (σ:=σ) (r:=r)) hz
 rwa [h.p_sw] at this
theorem bact_fn (h:BOk R D) {x:PyData} (hz:r.fn.length≤1000000):Act (B.sys R lo) 0 [.v (.ref D.fn),.d x] (setRaw D σ r) (fun vs=>call (.builtin "list.append") vs) (.d .none) (setRaw D σ { r with fn:=r.fn++[x] }):=by
 have:=act_append (lo:=lo) (x:=x) h.r_fn (h.g_fn (σ:=σ) (r:=r)) hz
 rwa [h.p_fn] at this
theorem bact_fa (h:BOk R D) {x:PyData} (hz:r.fa.length≤1000000):Act (B.sys R lo) 0 [.v (.ref D.fa),.d x] (setRaw D σ r) (fun vs=>call (.builtin "list.append") vs) (.d .none) (setRaw D σ { r with fa:=r.fa++[x] }):=by
 have:=act_append (lo:=lo) (x:=x) h.r_fa (h.g_fa (σ:=σ) (r:=r)) hz
 rwa [h.p_fa] at this
theorem bact_fr (h:BOk R D) {x:PyData} (hz:r.fr.length≤1000000):Act (B.sys R lo) 0 [.v (.ref D.fr),.d x] (setRaw D σ r) (fun vs=>call (.builtin "list.append") vs) (.d .none) (setRaw D σ { r with fr:=r.fr++[x] }):=by
 have:=act_append (lo:=lo) (x:=x) h.r_fr (h.g_fr (σ:=σ) (r:=r)) hz
 rwa [h.p_fr] at this
theorem bact_to (h:BOk R D) {x:PyData} (hz:r.to.length≤1000000):Act (B.sys R lo) 0 [.v (.ref D.to),.d x] (setRaw D σ r) (fun vs=>call (.builtin "list.append") vs) (.d .none) (setRaw D σ { r with to:=r.to++[x] }):=by
 have:=act_append (lo:=lo) (x:=x) h.r_to (h.g_to (σ:=σ) (r:=r)) hz
 rwa [h.p_to] at this
theorem bact_ta (h:BOk R D) {x:PyData} (hz:r.ta.length≤1000000):Act (B.sys R lo) 0 [.v (.ref D.ta),.d x] (setRaw D σ r) (fun vs=>call (.builtin "list.append") vs) (.d .none) (setRaw D σ { r with ta:=r.ta++[x] }):=by
 have:=act_append (lo:=lo) (x:=x) h.r_ta (h.g_ta (σ:=σ) (r:=r)) hz
 rwa [h.p_ta] at this
theorem bact_ts (h:BOk R D) {x:PyData} (hz:r.ts.length≤1000000):Act (B.sys R lo) 0 [.v (.ref D.ts),.d x] (setRaw D σ r) (fun vs=>call (.builtin "list.append") vs) (.d .none) (setRaw D σ { r with ts:=r.ts++[x] }):=by
 have:=act_append (lo:=lo) (x:=x) h.r_ts (h.g_ts (σ:=σ) (r:=r)) hz
 rwa [h.p_ts] at this
theorem bact_td (h:BOk R D) {x:PyData} (hz:r.td.length≤1000000):Act (B.sys R lo) 0 [.v (.ref D.td),.d x] (setRaw D σ r) (fun vs=>call (.builtin "list.append") vs) (.d .none) (setRaw D σ { r with td:=r.td++[x] }):=by
 have:=act_append (lo:=lo) (x:=x) h.r_td (h.g_td (σ:=σ) (r:=r)) hz
 rwa [h.p_td] at this
theorem bex_nb (h:BOk R D) {n:Nat} {env:Env} {ρ:List (Str × AV)} {o i value:Expr} {pos' pos:Pos} {k:PyData} {x:AV}
  (h1:Ev (B.sys R lo) n env ρ (setRaw D σ r) (eval value env) x (setRaw D σ r)) (h2:Ev (B.sys R lo) n env ρ (setRaw D σ r) (eval o env) (.v (.ref D.nb)) (setRaw D σ r)) (h3:Ev (B.sys R lo) n env ρ (setRaw D σ r) (eval i env) (.d k) (setRaw D σ r))
  (h6:KeyD 6 k) (hz:r.nb.length≤100000) (hs:swapsWith value (some (.Subscript o i pos')) pos.line env=pure false) :
  Ex (B.sys R lo) n env ρ (setRaw D σ r) (exec (.Assign [.Subscript o i pos'] value pos) env) (.next ρ (setRaw D σ { r with nb:=kvSet r.nb k x })):=by
 have:=ex_dset h1 h2 h3 h.r_nb (h.g_nb (σ:=σ) (r:=r)) h6 hz hs
 rwa [h.p_nb] at this
theorem bex_bv (h:BOk R D) {n:Nat} {env:Env} {ρ:List (Str × AV)} {o i value:Expr} {pos' pos:Pos} {k:PyData} {x:AV}
  (h1:Ev (B.sys R lo) n env ρ (setRaw D σ r) (eval value env) x (setRaw D σ r)) (h2:Ev (B.sys R lo) n env ρ (setRaw D σ r) (eval o env) (.v (.ref D.bv)) (setRaw D σ r)) (h3:Ev (B.sys R lo) n env ρ (setRaw D σ r) (eval i env) (.d k) (setRaw D σ r))
  (h6:KeyD 6 k) (hz:r.bv.length≤100000) (hs:swapsWith value (some (.Subscript o i pos')) pos.line env=pure false) :
  Ex (B.sys R lo) n env ρ (setRaw D σ r) (exec (.Assign [.Subscript o i pos'] value pos) env) (.next ρ (setRaw D σ { r with bv:=kvSet r.bv k x })):=by
 have:=ex_dset h1 h2 h3 h.r_bv (h.g_bv (σ:=σ) (r:=r)) h6 hz hs
 rwa [h.p_bv] at this
@[reducible] noncomputable def Tm.key (t:Tm):PyData:=.tuple [.str t.op,.tuple (t.args.map .int),.int t.sort,.int t.data]
noncomputable def numsFrom:Nat→List Tm→List (PyData × AV)
 | _,[]=>[]
 | i,t::r=>(t.key,.d (.int (i:Nat)))::numsFrom (i+1) r
noncomputable def rawOf (bk:Bk):Raw where
 sn:=bk.sns.map .str
 sw:=bk.sws.map .int
 fn:=bk.fns.map .str
 fa:=bk.fns.map fun _u=>.tuple []
 fr:=bk.frs.map .int
 to:=bk.tms.map fun t=>.str t.op
 ta:=bk.tms.map fun t=>.tuple (t.args.map .int)
 ts:=bk.tms.map fun t=>.int t.sort
 td:=bk.tms.map fun t=>.int t.data
 nb:=numsFrom 1 (bk.tms.drop 1)
 bv:=bk.bvs.map fun p=>(.int p.1,.d (.int p.2))
theorem ints_eqv:∀ {a b:List Int},PyData.eqvAll (a.map .int) (b.map .int)=(a == b)
 | [],[]=>by simp [PyData.eqvAll]
 | [],_::_=>by simp [PyData.eqvAll]
 | _::_,[]=>by simp [PyData.eqvAll]
 | x::a,y::b=>by
  rw [List.map_cons,List.map_cons]
  simp only [PyData.eqvAll,PyData.eqv,ints_eqv (a:=a) (b:=b)]
  rfl
theorem key_eqv {t u:Tm}:PyData.eqv t.key u.key=true↔t=u:=by
 unfold Tm.key
 simp only [PyData.eqv,PyData.eqvAll,ints_eqv,Bool.and_true,Bool.and_eq_true,beq_iff_eq]
 obtain ⟨a,b,c,d⟩:=t
 obtain ⟨a',b',c',d'⟩:=u
 simp
theorem nums_get {t:Tm}:∀ {l:List Tm} {i:Nat},0<i→(kvGet (numsFrom i l) t.key).getD (.d (.int 0))=.d (.int ((findFrom t i l:Nat):Int))
 | [],i,_=>rfl
 | u::r,i,hi=>by
  rw [numsFrom,kvGet,findFrom]
  by_cases e:u=t
  ·rw [if_pos (key_eqv.mpr e),if_pos e];rfl
  rw [if_neg fun q=>e (key_eqv.mp q),if_neg e];exact nums_get (Nat.succ_pos i)
theorem nums_set {t:Tm}:∀ {l:List Tm} {i:Nat},0<i→findFrom t i l=0→kvSet (numsFrom i l) t.key (.d (.int ((i+l.length:Nat):Int)))=numsFrom i (l++[t])
 | [],i,_,_=>rfl
 | u::r,i,hi,h=>by
  rw [findFrom] at h
  by_cases e:u=t
  ·rw [if_pos e] at h;walk_at "o"
  rw [if_neg e] at h
  have ih:=nums_set (l:=r) (Nat.succ_pos i) h
  show kvSet ((u.key,.d (.int ((i:Nat):Int)))::numsFrom (i+1) r) t.key _=(u.key,.d (.int ((i:Nat):Int)))::numsFrom (i+1) (r++[t])
  rw [kvSet_skip (by simpa using fun q=>e (key_eqv.mp q)),List.length_cons,show i+(r.length+1)=i.succ+r.length by walk_at "o",ih]
theorem nums_len:∀ {l:List Tm} {i:Nat},(numsFrom i l).length=l.length
 | [],_=>rfl
 | u::r,i=>by unfold numsFrom;rw [List.length_cons,List.length_cons,nums_len]
theorem key_ok {t:Tm} (h:PyData.strOk t.op=true):KeyD 6 t.key:=by
 refine .tup fun x hx=>?_
 simp only [List.mem_cons,List.not_mem_nil,or_false] at hx
 rcases hx with rfl | rfl | rfl | rfl
 exact .str _ h
 ·exact .tup fun x hx=>by obtain ⟨i,_,rfl⟩:=List.mem_map.mp hx;exact .int _
 exact .int _;exact .int _
@[reducible] noncomputable def wB (D:BankD) (σ:Sto) (bk:Bk):Sto:=setRaw D σ (rawOf bk)
end
section
variable {S:Sys}
theorem fs_defn {n:Nat} {f:Addr} {of:Obj} {fd:FuncData} {body:List Stmt} {names:List Str} {as:List AV} {σ σ₁:Sto} {nm:List (Str × NameKind)} {K:Frag} (hK:K.In S.h₁)
  (h:∀ env,Fn' env nm→Ex S n env (names.zip as) σ (execs body env) (.next [] σ₁))
  (hl:K.lookup f=some of:=by k_is) (hd:of.data=.func fd:=by exact rfl) (hcd:codeIn K fd.code fd.qualname=true:=by k_is) (hbody:fd.body=.stmts body:=by exact rfl) (hclo:fd.closure=[]:=by exact rfl) (hg:fd.globals=mainGlobals:=by exact rfl) (hb:fd.builtins=builtinsNs:=by exact rfl) (hnm:fd.scope.names=nm:=by dsimp only) (hlen:names.length=as.length:=by exact rfl) (hbind:∀ vs:List Value,vs.length=names.length→bindArgs fd ⟨vs,[]⟩=pure (names.zip vs):=by walk_at "nz bind") (hnd:names.Nodup:=by decide) (hkinds:(names.all fun x=>decide (nm.lookup x=some .local)||(decide (nm.lookup x=some .cell)&&decide ((x,NameKind.cell)∈nm)))=true:=by rfl) (hco:fd.scope.isCoroutine=false:=by exact rfl) (hgen:fd.scope.isGenerator=false:=by exact rfl) (hk:fd.scope.kind=.function:=by exact rfl):FS S (n+1) f as σ (.d .none) σ₁:=by
 have ho:=hK _ _ hl
 have hcd:=codeRec_of hK hcd
 have hcells:∀ x,nm.lookup x=some .cell→(x,NameKind.cell)∈nm:=fun x hx=>mem_of_lookup hx
 intro V A s vs Q E rm bs vk wd r hq
 have hlv:vs.length=names.length:=by rw [r.length,hlen]
 have kinds:∀ x∈names.zip vs,fd.scope.names.lookup x.1=some .local∨(fd.scope.names.lookup x.1=some .cell∧((cellsFrom (s.heap.objs.size+1) fd.scope.names []).lookup x.1).isSome=true):=fun x hx=>by
  rw [hnm]
  have:=List.all_eq_true.mp hkinds x.1 (zip_mem_fst hx)
  rw [Bool.or_eq_true,Bool.and_eq_true,decide_eq_true_eq,decide_eq_true_eq,decide_eq_true_eq] at this
  exact this.imp id fun k=>⟨k.1,cellsFrom_in _ _ _ k.2⟩
 refine wpAny_call (call_cells_pos rm.pos rm.depth (bs _ _ ho) hd (S.lim.keeps bs) (hcd.keeps bs) hbody (hbind vs hlv) hclo kinds (fun s₁ p₁ x=>?_) hco hgen hk)
 generalize henv:callEnvC fd s.heap.objs.size f=env at x ⊢
 have f':Fn' env nm:=by
  subst henv
  exact ⟨⟨hk,hnm,hg,hb⟩,fun y hy=>Option.isSome_iff_exists.mp (by
   show ((cellsFrom (s.heap.objs.size+1) fd.scope.names []).lookup y).isSome=true
   rw [hnm];exact cellsFrom_in _ _ _ (hcells y hy))⟩
 have hL:env.locals=s.heap.objs.size:=by subst henv;rfl
 obtain ⟨h₁,tk₁,rfl⟩:=x.toInCall.same
 have keep:∀ b o,s.heap.get? b=some o→h₁.get? b=some o:=x.toInCall.keep
 have hns:=x.toInCall.ns
 have g0:Grow (fun _u=>False) s.heap h₁:=.of keep
 have ownLo:∀ a,Own env a→s.heap.get? a=none:=fun a k=>none_size _ (k.elim (fun e=>by rw [e,hL];exact Nat.le_refl _) fun ⟨y,e⟩=>by
  have:=x.above y a (mem_of_lookup e)
  rw [hL] at this
  exact Nat.le_of_lt this)
 have ownHi:∀ a,Own env a→∃ o,h₁.get? a=some o:=fun a k=>k.elim (fun e=>by rw [e];obtain ⟨o,_,_,e,_⟩:=hns;exact ⟨o,e⟩) fun ⟨y,e⟩=>let ⟨o,e,_⟩:=x.cell y a e;⟨o,e⟩
 have ownBase:∀ a,Own env a→S.h₁.get? a=none:=fun a k=>by
  cases e:S.h₁.get? a with
  | none=>rfl
  | some o=>have:=bs a o e;rw [ownLo a k] at this;cases this
 have g0R:Grow S.R s.heap h₁:=g0.mono fun _u k=>k.elim
 have to:∀ a,(V a∨Own env a)→V a∨s.heap.get? a=none:=fun a k=>k.imp id (ownLo a)
 have wd':S.Wd (fun a=>V a∨Own env a) h₁ σ:=S.grow (S.to wd to fun a k=>.inl (vk.1 a k)) g0 (fun _u k=>k.elim) fun _u k=>k.elim
 have ownR:∀ a,Own env a→¬S.R a:=fun a k q=>by
  obtain ⟨o,e⟩:=(vk.2 a (vk.1 a q)).2
  rw [ownLo a k] at e;cases e
 have q:View S (fun a=>V a∨Own env a) env h₁ (names.zip as) σ:=by
  refine ⟨fun a o e=>keep a o (bs a o e),⟨fun a k=>.inl (vk.1 a k),fun a k=>?_⟩,⟨_,hns,fun p hp=>?_⟩,fun y c e=>⟨_,x.cell y c e⟩,x.apart,⟨.inr (.inl rfl),ownR _ (.inl rfl)⟩,fun y c e=>⟨.inr (.inr ⟨y,e⟩),ownR _ (.inr ⟨y,e⟩),?_⟩,wd'⟩
  ·rcases k with k | k
   exact ⟨(vk.2 a k).1,let ⟨o,e⟩:=(vk.2 a k).2;⟨o,keep a o e⟩⟩;exact ⟨ownBase a k,ownHi a k⟩
  ·obtain ⟨v,hm,rv⟩:=zip_two r hp
   have hfst:((names.zip vs).map (·.1)).Nodup:=by rw [zip_fst hlv.symm];exact hnd
   refine ⟨v,(rv.to to).grow g0 (fun _u k=>k.elim),?_⟩
   rcases kinds _ hm with hl | ⟨hl,hs⟩
   ·have hk':env.kindOf p.1=some .local:=by rw [f'.at,← hnm];exact hl
    exact .inl ⟨hk',bindL_in _ hk' _ _ hfst hm⟩
   have hk':env.kindOf p.1=some .cell:=by rw [f'.at,← hnm];exact hl
   obtain ⟨c,hc⟩:=f'.cells p.1 (by rw [← hnm];exact hl)
   refine .inr ⟨hk',c,hc,?_⟩
   have:=x.cell _ c hc
   rwa [bindC_in _ (by rw [hk'];decide) _ _ hfst hm] at this
  exact Nat.ne_of_gt (x.above y c (mem_of_lookup e))
 refine (h env f').run (fun a=>V a∨Own env a) (A.deeper env) _ _ _ (rm.deeper.at p₁) q fun fl h' tk g r'=>?_
 obtain ⟨rfl,q'⟩:=r'
 have g1:Grow S.R s.heap h':=(g0R.mono fun a k=>.inl k).trans g |>.drop fun a k=>k.imp id (ownLo a)
 exact hq .none h' tk g1 (S.to q'.wd (fun a k=>.inl (.inl k)) vk.1) .none
end
theorem item_at {xs:List PyData} {t:Nat} {x:PyData} (h:xs[t]?=some x):xs[placeOf (t:Int) xs.length]?=some x:=by
 rw [show placeOf (t:Int) xs.length=t from if_neg (by walk_at "o")];exact h
theorem blt_max {S:Sys} {a b:Int}:Blt S "max" [.d (.int a),.d (.int b)] (.d (.int (if a<b then b else a))):=by
 intro V A s vs Q E rm bs vk r h
 obtain ⟨v,u,rfl,r1,r2⟩:=r.two
 obtain ⟨t1,rfl⟩:=Rd.ofInt r1
 obtain ⟨t2,rfl⟩:=Rd.ofInt r2
 refine max_two_ints rm.h fun h' tk k=>?_
 split <;> exact h _ h' tk (.of k) (by first | (rw [if_pos (by assumption)];exact .int _ _) | (rw [if_neg (by assumption)];exact .int _ _))
theorem map_at {α:Type} {l:List α} {f:α→PyData} {t:Nat} {u:α} (h:l[t]?=some u):(l.map f)[t]?=some (f u):=by rw [List.getElem?_map,h];rfl
theorem put_raw {D:BankD} {σ:Sto} {r:Raw} {a:Addr} {m:Mut} (h:a∉D.all):put (setRaw D σ r) a m=setRaw D (put σ a m) r:=by
 funext c
 by_cases e:c=a
 ·subst e;exact (if_pos rfl).trans ((lk_off (T:=bTab D r) h).trans (if_pos rfl)).symm
 exact (if_neg e).trans (congrArg (fun x=>lk (bTab D r) x c) (if_neg e).symm)
theorem raw_off {D:BankD} {σ:Sto} {r:Raw} {a:Addr} (h:a∉D.all):setRaw D σ r a=σ a:=lk_off (T:=bTab D r) h
theorem BOk.more {R:Addr→Prop} {D:BankD} (h:BOk R D) (a:Addr):BOk (fun b=>R b∨b=a) D:=⟨h.nd,fun x hx=>.inl (h.inn x hx),h.s_nb,h.s_bv⟩
theorem BOk.off {R:Addr→Prop} {D:BankD} (h:BOk R D) {a:Addr} (n:¬R a):a∉D.all:=fun k=>n (h.inn a k)
section
variable {B:Base} {R:Addr→Prop} {lo:∀ a,R a→B.h₁.get? a=none} {σ:Sto} {D:BankD} {bk:Bk}
theorem raw_make {bk:Bk} {t:Tm} (h0:bk.find t=0) (h1:1≤bk.tms.length):rawOf (bk.make t).2 = { rawOf bk with to:=(rawOf bk).to++[.str t.op],ta:=(rawOf bk).ta++[.tuple (t.args.map .int)],ts:=(rawOf bk).ts++[.int t.sort],td:=(rawOf bk).td++[.int t.data],nb:=kvSet (rawOf bk).nb t.key (.d (.int ((bk.tms.length:Nat):Int))) }:=by
 have e:(bk.make t).2 = { bk with tms:=bk.tms++[t] }:=by unfold Bk.make;rw [if_pos h0]
 have l:bk.tms.length=1+(bk.tms.drop 1).length:=by rw [List.length_drop];walk_at "o"
 have s:=nums_set (t:=t) (l:=bk.tms.drop 1) (i:=1) (by decide) h0
 rw [e]
 unfold rawOf
 dsimp only
 rw [l,s,List.map_append,List.map_append,List.map_append,List.map_append,List.drop_append_of_le_length h1]
 rfl
theorem ok_bit:PyData.strOk "bit"=true:=by decide +kernel
theorem ok_xor:PyData.strOk "xor"=true:=by decide +kernel
theorem ok_eq:PyData.strOk "="=true:=by decide +kernel
theorem ok_app:PyData.strOk "app"=true:=by decide +kernel
theorem c_make (hK:(KZ B.w.params).In B.h₁) (bo:BOk R D) (bl:bk.tms.length≤10000) {t:Tm} (hop:PyData.strOk t.op=true) (h1:1≤bk.tms.length):FS (B.sys R lo) 1 249 [.v (.ref D.b),.d (.str t.op),.d (.tuple (t.args.map .int)),.d (.int t.sort),.d (.int t.data)] (wB D σ bk) (.d (.int (((bk.make t).1:Nat):Int))) (wB D σ (bk.make t).2):=by
 refine fs_def (names:=["self","op","args","sort","data"]) hK ?h_1
 case h_1=>
  intro env f
  change Ex _ _ _ [("self",_),("op",_),("args",_),("sort",_),("data",_)] _ _ _
  by_cases h0:bk.find t=0
  ·have e1:(bk.make t).1=bk.tms.length:=by unfold Bk.make;rw [if_pos h0]
   rw [e1,show wB D σ (bk.make t).2=setRaw D σ (rawOf (bk.make t).2) from rfl,raw_make h0 h1]
   walk_at "2";(with_reducible apply ex_assign);walk_at "f";walk_at "d";(with_reducible apply ev_tuple);walk_at "3";walk_at "n";walk_at "3";walk_at "n";walk_at "3";walk_at "n";walk_at "3";walk_at "n";exact evd_nil;rfl;rfl;rfl;rfl;rfl;walk_at "u";rfl;walk_at "2"
   ·with_reducible apply ex_assign
    walk_at "f";walk_at "d"
    ·with_reducible apply ev_is (b:=.d (.int 0))
     (with_reducible apply ev_methb;apply ev_attr);assumption;walk_at "n";exact bo.obj;exact bkv_str;exact bkv_nb;rfl;k_is;k_is;k_is;(with_unfolding_all rfl);exact meth_dict bo.r_nb bo.g_nb PySem.F.slot_dict_get rfl;walk_at "1";walk_at "n";walk_at "1";exact ev_int;exact evs_nil;rfl;rfl;exact Act.of (opw_dget bo.r_nb bo.g_nb (key_ok hop) bo.s_nb);rfl;rfl;rfl
     show (kvGet (numsFrom 1 (bk.tms.drop 1)) t.key).getD (.d (.int 0))=_;rw [nums_get (by decide)];rw [show findFrom t 1 (bk.tms.drop 1)=0 from h0];rfl
    walk_at "u";rfl
   walk_at "2"
   ·with_reducible apply ex_if (b:=true)
    walk_at "5";walk_at "4";walk_at "n";exact ev_int;walk_at "c";(with_unfolding_all rfl);rfl
    ·intro _
     walk_at "2"
     ·with_reducible apply ex_assign
      walk_at "f";walk_at "d"
      ·with_reducible apply ev_is (b:=.d (.int ((bk.tms.length:Nat):Int)))
       (with_reducible apply ev_callbW);((with_reducible apply ev_blt);assumption;walk_at "f";rfl;k_is;exact bb_len;decide;decide);walk_at "1";(with_reducible apply ev_attr);assumption;walk_at "n";exact bo.obj;exact bkv_str;exact bkv_to;rfl;k_is;k_is;k_is;(with_unfolding_all rfl);exact evs_nil;rfl;exact opw_fst (c:=.d (.int _)) bo.r_to bo.g_to trivial (blt_len_list (by simp [rawOf];walk_at "o"));rfl;rfl
       simp [rawOf]
      walk_at "u";rfl
     walk_at "2";(with_reducible apply ex_expr;apply ev_methb;apply ev_attr);assumption;walk_at "n";exact bo.obj;exact bkv_str;exact bkv_to;rfl;k_is;k_is;k_is;(with_unfolding_all rfl);exact meth_list bo.r_to bo.g_to PySem.F.slot_list_append rfl;walk_at "1";walk_at "n";exact evs_nil;rfl;exact bact_to bo (by simp [rawOf];walk_at "o");rfl;rfl;rfl;exact Fn.quiet (by walk_at "f");rfl;walk_at "2";(with_reducible apply ex_expr;apply ev_methb;apply ev_attr);assumption;walk_at "n";exact bo.obj;exact bkv_str;exact bkv_ta;rfl;k_is;k_is;k_is;(with_unfolding_all rfl);exact meth_list bo.r_ta bo.g_ta PySem.F.slot_list_append rfl;walk_at "1";walk_at "n";exact evs_nil;rfl;exact bact_ta bo (by simp [rawOf];walk_at "o");rfl;rfl;rfl;exact Fn.quiet (by walk_at "f");rfl;walk_at "2";(with_reducible apply ex_expr;apply ev_methb;apply ev_attr);assumption;walk_at "n";exact bo.obj;exact bkv_str;exact bkv_ts;rfl;k_is;k_is;k_is;(with_unfolding_all rfl);exact meth_list bo.r_ts bo.g_ts PySem.F.slot_list_append rfl;walk_at "1";walk_at "n";exact evs_nil;rfl;exact bact_ts bo (by simp [rawOf];walk_at "o");rfl;rfl;rfl;exact Fn.quiet (by walk_at "f");rfl;walk_at "2";(with_reducible apply ex_expr;apply ev_methb;apply ev_attr);assumption;walk_at "n";exact bo.obj;exact bkv_str;exact bkv_td;rfl;k_is;k_is;k_is;(with_unfolding_all rfl);exact meth_list bo.r_td bo.g_td PySem.F.slot_list_append rfl;walk_at "1";walk_at "n";exact evs_nil;rfl;exact bact_td bo (by simp [rawOf];walk_at "o");rfl;rfl;rfl;exact Fn.quiet (by walk_at "f");rfl;walk_at "2"
     ·with_reducible apply bex_nb
      exact bo;walk_at "n";(with_reducible apply ev_attr);assumption;walk_at "n";exact bo.obj;exact bkv_str;exact bkv_nb;rfl;k_is;k_is;k_is;(with_unfolding_all rfl);walk_at "n";exact key_ok hop
      ·show (numsFrom 1 (bk.tms.drop 1)).length≤100000;rw [nums_len,List.length_drop];walk_at "o"
      rfl
     exact ex_nil
    intro h;cases h
   walk_at "6";(with_reducible apply ex_ret);walk_at "n"
  have e1:bk.make t=(bk.find t,bk):=by unfold Bk.make;rw [if_neg h0]
  rw [e1]
  walk_at "2";(with_reducible apply ex_assign);walk_at "f";walk_at "d";(with_reducible apply ev_tuple);walk_at "3";walk_at "n";walk_at "3";walk_at "n";walk_at "3";walk_at "n";walk_at "3";walk_at "n";exact evd_nil;rfl;rfl;rfl;rfl;rfl;walk_at "u";rfl;walk_at "2"
  ·with_reducible apply ex_assign
   walk_at "f";walk_at "d"
   ·with_reducible apply ev_is (b:=.d (.int ((bk.find t:Nat):Int)))
    (with_reducible apply ev_methb;apply ev_attr);assumption;walk_at "n";exact bo.obj;exact bkv_str;exact bkv_nb;rfl;k_is;k_is;k_is;(with_unfolding_all rfl);exact meth_dict bo.r_nb bo.g_nb PySem.F.slot_dict_get rfl;walk_at "1";walk_at "n";walk_at "1";exact ev_int;exact evs_nil;rfl;rfl;exact Act.of (opw_dget bo.r_nb bo.g_nb (key_ok hop) bo.s_nb);rfl;rfl;rfl;exact nums_get (by decide)
   walk_at "u";rfl
  walk_at "2"
  ·with_reducible apply ex_if (b:=false)
   ·walk_at "5"
    walk_at "4";walk_at "n";exact ev_int;walk_at "c";(with_unfolding_all rfl)
    rw [beq_eq_false_iff_ne];walk_at "o"
   intro h;cases h
   intro _
   exact ex_nil
  walk_at "6";(with_reducible apply ex_ret);walk_at "n"
theorem c_find (hK:(KZ B.w.params).In B.h₁) (bo:BOk R D) (bl:bk.tms.length≤10000) {t:Tm} (hop:PyData.strOk t.op=true):FS (B.sys R lo) 1 256 [.v (.ref D.b),.d (.str t.op),.d (.tuple (t.args.map .int)),.d (.int t.sort),.d (.int t.data)] (wB D σ bk) (.d (.int ((bk.find t:Nat):Int))) (wB D σ bk):=by
 refine fs_def (names:=["self","op","args","sort","data"]) hK ?h_2
 case h_2=>
  intro env f
  change Ex _ _ _ [("self",_),("op",_),("args",_),("sort",_),("data",_)] _ _ _
  walk_at "6";(with_reducible apply ex_ret)
  with_reducible apply ev_is (b:=.d (.int ((bk.find t:Nat):Int)))
  (with_reducible apply ev_methb;apply ev_attr);assumption;walk_at "n";exact bo.obj;exact bkv_str;exact bkv_nb;rfl;k_is;k_is;k_is;(with_unfolding_all rfl);exact meth_dict bo.r_nb bo.g_nb PySem.F.slot_dict_get rfl;walk_at "1";(with_reducible apply ev_tuple);walk_at "3";walk_at "n";walk_at "3";walk_at "n";walk_at "3";walk_at "n";walk_at "3";walk_at "n";exact evd_nil;rfl;rfl;rfl;rfl;rfl;walk_at "1";exact ev_int;exact evs_nil;rfl;rfl;exact Act.of (opw_dget bo.r_nb bo.g_nb (key_ok (t:=t) hop) bo.s_nb);rfl;rfl;rfl;exact nums_get (by decide)
theorem c_op (hK:(KZ B.w.params).In B.h₁) (bo:BOk R D) (bl:bk.tms.length≤10000) {t:Nat} {u:Tm} (h:bk.tms[t]?=some u):FS (B.sys R lo) 1 207 [.v (.ref D.b),.d (.int (t:Int))] (wB D σ bk) (.d (.str u.op)) (wB D σ bk):=by
 refine fs_def (names:=["self","t"]) hK ?h_3
 case h_3=>
  intro env f
  change Ex _ _ _ [("self",_),("t",_)] _ _ _
  have tl:=(List.getElem?_eq_some_iff.mp h).1
  walk_at "6";(with_reducible apply ex_ret;apply ev_subW;apply ev_attr);assumption;walk_at "n";exact bo.obj;exact bkv_str;exact bkv_to;rfl;k_is;k_is;k_is;(with_unfolding_all rfl);walk_at "n";exact opw_item bo.r_to bo.g_to (by first | (simp [rawOf];done) | (simp [rawOf];walk_at "o")) (by walk_at "o") (by walk_at "o") (item_at (map_at h))
theorem c_args (hK:(KZ B.w.params).In B.h₁) (bo:BOk R D) (bl:bk.tms.length≤10000) {t:Nat} {u:Tm} (h:bk.tms[t]?=some u):FS (B.sys R lo) 1 214 [.v (.ref D.b),.d (.int (t:Int))] (wB D σ bk) (.d (.tuple (u.args.map .int))) (wB D σ bk):=by
 refine fs_def (names:=["self","t"]) hK ?h_4
 case h_4=>
  intro env f
  change Ex _ _ _ [("self",_),("t",_)] _ _ _
  have tl:=(List.getElem?_eq_some_iff.mp h).1
  walk_at "6";(with_reducible apply ex_ret;apply ev_subW;apply ev_attr);assumption;walk_at "n";exact bo.obj;exact bkv_str;exact bkv_ta;rfl;k_is;k_is;k_is;(with_unfolding_all rfl);walk_at "n";exact opw_item bo.r_ta bo.g_ta (by first | (simp [rawOf];done) | (simp [rawOf];walk_at "o")) (by walk_at "o") (by walk_at "o") (item_at (map_at h))
theorem c_width (hK:(KZ B.w.params).In B.h₁) (bo:BOk R D) (bl:bk.tms.length≤10000) {t:Nat} {u:Tm} {s:Nat} {w:Int} (h:bk.tms[t]?=some u) (hs:u.sort=(s:Int)) (hw:bk.sws[s]?=some w) (sl:bk.sws.length≤10000):FS (B.sys R lo) 1 235 [.v (.ref D.b),.d (.int (t:Int))] (wB D σ bk) (.d (.int w)) (wB D σ bk):=by
 refine fs_def (names:=["self","t"]) hK ?h_5
 case h_5=>
  intro env f
  change Ex _ _ _ [("self",_),("t",_)] _ _ _
  have tl:=(List.getElem?_eq_some_iff.mp h).1
  have wl:=(List.getElem?_eq_some_iff.mp hw).1
  walk_at "6";(with_reducible apply ex_ret;apply ev_subW;apply ev_attr);assumption;walk_at "n";exact bo.obj;exact bkv_str;exact bkv_sw;rfl;k_is;k_is;k_is;(with_unfolding_all rfl);(with_reducible apply ev_subW;apply ev_attr);assumption;walk_at "n";exact bo.obj;exact bkv_str;exact bkv_ts;rfl;k_is;k_is;k_is;(with_unfolding_all rfl);walk_at "n";exact opw_item bo.r_ts bo.g_ts (by first | (simp [rawOf];done) | (simp [rawOf];walk_at "o")) (by walk_at "o") (by walk_at "o") (item_at (map_at h))
  rw [hs];exact opw_item bo.r_sw bo.g_sw (by first | (simp [rawOf];done) | (simp [rawOf];walk_at "o")) (by walk_at "o") (by walk_at "o") (item_at (map_at hw))
theorem c_want (hK:(KZ B.w.params).In B.h₁) (bo:BOk R D) (bl:bk.tms.length≤10000) {t:Nat} {u:Tm} {wh:Str} (h:bk.tms[t]?=some u):FS (B.sys R lo) 1 270 [.v (.ref D.b),.d (.int (t:Int)),.d (.int u.sort),.d (.str wh)] (wB D σ bk) (.d .none) (wB D σ bk):=by
 refine fs_defn (names:=["self","t","s","where"]) hK ?h_6
 case h_6=>
  intro env f
  change Ex _ _ _ [("self",_),("t",_),("s",_),("where",_)] _ _ _
  have tl:=(List.getElem?_eq_some_iff.mp h).1
  with_reducible apply ex_sub
  ·walk_at "2"
   ·with_reducible apply ex_if (b:=false)
    walk_at "5";walk_at "4";(with_reducible apply ev_subW;apply ev_attr);assumption;walk_at "n";exact bo.obj;exact bkv_str;exact bkv_ts;rfl;k_is;k_is;k_is;(with_unfolding_all rfl);walk_at "n";exact opw_item bo.r_ts bo.g_ts (by first | (simp [rawOf];done) | (simp [rawOf];walk_at "o")) (by walk_at "o") (by walk_at "o") (item_at (map_at h));walk_at "n";walk_at "c";(with_unfolding_all rfl);walk_at "t";intro h;cases h
    intro _
    exact ex_nil
   exact ex_nil
  exact fun p hp=>by simp at hp
theorem c_wantall (hK:(KZ B.w.params).In B.h₁) (bo:BOk R D) (bl:bk.tms.length≤10000) {a c:Nat} {u v:Tm} {wh:Str} (ha:bk.tms[a]?=some u) (sa:u.sort=0) (hc:bk.tms[c]?=some v) (sc:v.sort=0):FS (B.sys R lo) 2 277 [.v (.ref D.b),.d (.tuple [.int (a:Int),.int (c:Int)]),.d (.int 0),.d (.str wh)] (wB D σ bk) (.d .none) (wB D σ bk):=by
 refine fs_defn (names:=["self","some","s","where"]) hK ?h_7
 case h_7=>
  intro env f
  change Ex _ _ _ [("self",_),("some",_),("s",_),("where",_)] _ _ _
  with_reducible apply ex_sub
  ·walk_at "2"
   ·with_reducible apply ex_for
    walk_at "f";walk_at "d";walk_at "n";exact iter_tuple
    ·refine' turns_fold (β:=Unit) (ρ:=[("self",.v (.ref D.b)),("some",.d (.tuple [.int (a:Int),.int (c:Int)])),("s",.d (.int 0)),("where",.d (.str wh))]) (fun t:Nat=>PyData.int (t:Int)) (fun _u=>wB D σ bk) (fun _u _u=>()) (fun _u _u=>True) rfl [a,c] () trivial (fun r hr m acc _u=>⟨trivial,?_⟩)
     obtain ⟨u,hu,hu0⟩:∃ u,bk.tms[r]?=some u∧u.sort=0:=by
      rcases List.mem_cons.mp hr with rfl | hr
      exact ⟨_,ha,sa⟩
      rw [List.mem_singleton.mp hr];exact ⟨_,hc,sc⟩
     have hwant:=c_want (lo:=lo) (σ:=σ) hK bo bl (wh:=wh) hu
     rw [hu0] at hwant
     (with_reducible apply ex_sub);walk_at "2";(with_reducible apply ex_expr;apply ev_methd);assumption;walk_at "n";exact bo.obj;rfl;exact bkv_off (by decide +kernel);k_is;k_is;k_is;k_is;rfl;walk_at "1";walk_at "n";walk_at "1";walk_at "n";walk_at "1";walk_at "n";exact evs_nil;rfl;rfl;rfl;exact hwant;walk_at "k";rfl;rfl;exact Fn.quiet (by walk_at "f");rfl;exact ex_nil
     exact fun p hp=>List.mem_cons_of_mem _ hp
    exact fun _u=>rfl
   exact ex_nil
  exact fun p hp=>by simp at hp
theorem c_wantbits (hK:(KZ B.w.params).In B.h₁) (bo:BOk R D) (bl:bk.tms.length≤10000) {t:Nat} {u:Tm} {s:Nat} {w:Int} (h:bk.tms[t]?=some u) (hs:u.sort=(s:Int)) (hw:bk.sws[s]?=some w) (sl:bk.sws.length≤10000) {wh:Str} (w0:w≠0):FS (B.sys R lo) 2 548 [.v (.ref D.b),.d (.int (t:Int)),.d (.str wh)] (wB D σ bk) (.d .none) (wB D σ bk):=by
 refine fs_defn (names:=["self","t","where"]) hK ?h_8
 case h_8=>
  intro env f
  change Ex _ _ _ [("self",_),("t",_),("where",_)] _ _ _
  with_reducible apply ex_sub
  ·walk_at "2"
   ·with_reducible apply ex_if (b:=false)
    ·walk_at "5"
     walk_at "4";(with_reducible apply ev_methd);assumption;walk_at "n";exact bo.obj;rfl;exact bkv_off (by decide +kernel);k_is;k_is;k_is;k_is;rfl;walk_at "1";walk_at "n";exact evs_nil;rfl;exact c_width hK bo bl h hs hw sl;walk_at "k";rfl;rfl;exact ev_int;walk_at "c";(with_unfolding_all rfl)
     rw [beq_eq_false_iff_ne];exact w0
    intro h;cases h
    intro _
    exact ex_nil
   exact ex_nil
  exact fun p hp=>by simp at hp
theorem c_bit (hK:(KZ B.w.params).In B.h₁) (bo:BOk R D) (bl:bk.tms.length≤10000) {t:Nat} {u:Tm} {s:Nat} {w:Int} (h:bk.tms[t]?=some u) (hs:u.sort=(s:Int)) (hw:bk.sws[s]?=some w) (sl:bk.sws.length≤10000) {i:Nat} (w0:w≠0) (hi:(i:Int)<w) (h1:1≤bk.tms.length):FS (B.sys R lo) 3 611 [.v (.ref D.b),.d (.int (i:Int)),.d (.int (t:Int))] (wB D σ bk) (.d (.int (((bk.make (bitT t i)).1:Nat):Int))) (wB D σ (bk.make (bitT t i)).2):=by
 refine fs_def (names:=["self","i","t"]) hK ?h_9
 case h_9=>
  intro env f
  change Ex _ _ _ [("self",_),("i",_),("t",_)] _ _ _
  walk_at "2";(with_reducible apply ex_expr;apply ev_methd);assumption;walk_at "n";exact bo.obj;rfl;exact bkv_off (by decide +kernel);k_is;k_is;k_is;k_is;rfl;walk_at "1";walk_at "n";walk_at "1";exact ev_str;exact evs_nil;rfl;rfl;exact c_wantbits hK bo bl h hs hw sl w0;walk_at "k";rfl;rfl;exact Fn.quiet (by walk_at "f");rfl;walk_at "2"
  ·with_reducible apply ex_if (b:=false)
   ·walk_at "5"
    ·with_reducible apply tr_not
     (with_reducible apply tr_chain);exact ev_int;walk_at "n";walk_at "c"
     ·intro _
      (with_reducible apply ev_methd);assumption;walk_at "n";exact bo.obj;rfl;exact bkv_off (by decide +kernel);k_is;k_is;k_is;k_is;rfl;walk_at "1";walk_at "n";exact evs_nil;rfl;exact c_width hK bo bl h hs hw sl;walk_at "k";rfl;rfl
     ·intro _
      walk_at "c"
     ·intro _
      rfl
     with_unfolding_all rfl
    rw [decide_eq_true (by walk_at "o"),decide_eq_true hi];rfl
   intro h;cases h
   intro _
   exact ex_nil
  walk_at "6";(with_reducible apply ex_ret;apply ev_methd);assumption;walk_at "n";exact bo.obj;rfl;exact bkv_off (by decide +kernel);k_is;k_is;k_is;k_is;rfl;walk_at "1";exact ev_str;walk_at "1";(with_reducible apply ev_tuple);walk_at "3";walk_at "n";exact evd_nil;rfl;rfl;walk_at "1";((with_reducible apply ev_globi);assumption;walk_at "f";rfl;k_is;decide);walk_at "1";walk_at "n";exact evs_nil;rfl;rfl;rfl;rfl;exact c_make (t:=bitT t i) hK bo bl ok_bit h1;walk_at "k";rfl;rfl
theorem c_xor (hK:(KZ B.w.params).In B.h₁) (bo:BOk R D) (bl:bk.tms.length≤10000) {a c:Nat} {u v:Tm} (ha:bk.tms[a]?=some u) (sa:u.sort=0) (hc:bk.tms[c]?=some v) (sc:v.sort=0) (h1:1≤bk.tms.length):FS (B.sys R lo) 3 354 [.v (.ref D.b),.d (.int (a:Int)),.d (.int (c:Int))] (wB D σ bk) (.d (.int (((bk.make (xorT a c)).1:Nat):Int))) (wB D σ (bk.make (xorT a c)).2):=by
 refine fs_def (names:=["self","a","b"]) hK ?h_10
 case h_10=>
  intro env f
  change Ex _ _ _ [("self",_),("a",_),("b",_)] _ _ _
  walk_at "2";(with_reducible apply ex_expr;apply ev_methd);assumption;walk_at "n";exact bo.obj;rfl;exact bkv_off (by decide +kernel);k_is;k_is;k_is;k_is;rfl;walk_at "1";(with_reducible apply ev_tuple);walk_at "3";walk_at "n";walk_at "3";walk_at "n";exact evd_nil;rfl;rfl;rfl;walk_at "1";((with_reducible apply ev_globi);assumption;walk_at "f";rfl;k_is;decide);walk_at "1";exact ev_str;exact evs_nil;rfl;rfl;rfl;exact c_wantall hK bo bl ha sa hc sc;walk_at "k";rfl;rfl;exact Fn.quiet (by walk_at "f");rfl;walk_at "6";(with_reducible apply ex_ret;apply ev_methd);assumption;walk_at "n";exact bo.obj;rfl;exact bkv_off (by decide +kernel);k_is;k_is;k_is;k_is;rfl;walk_at "1";exact ev_str;walk_at "1";(with_reducible apply ev_tuple);walk_at "3";walk_at "n";walk_at "3";walk_at "n";exact evd_nil;rfl;rfl;rfl;walk_at "1";((with_reducible apply ev_globi);assumption;walk_at "f";rfl;k_is;decide);walk_at "1";exact ev_int;exact evs_nil;rfl;rfl;rfl;rfl;exact c_make (t:=xorT a c) hK bo bl ok_xor h1;walk_at "k";rfl;rfl
theorem c_eqsame (hK:(KZ B.w.params).In B.h₁) (bo:BOk R D) (bl:bk.tms.length≤10000) {a:Nat} {u:Tm} (ha:bk.tms[a]?=some u):FS (B.sys R lo) 2 375 [.v (.ref D.b),.d (.int (a:Int)),.d (.int (a:Int))] (wB D σ bk) (.d (.int 1)) (wB D σ bk):=by
 refine fs_def (names:=["self","a","b"]) hK ?h_11
 case h_11=>
  intro env f
  change Ex _ _ _ [("self",_),("a",_),("b",_)] _ _ _
  have tl:=(List.getElem?_eq_some_iff.mp ha).1
  walk_at "2";(with_reducible apply ex_expr;apply ev_methd);assumption;walk_at "n";exact bo.obj;rfl;exact bkv_off (by decide +kernel);k_is;k_is;k_is;k_is;rfl;walk_at "1";walk_at "n";walk_at "1";(with_reducible apply ev_subW;apply ev_attr);assumption;walk_at "n";exact bo.obj;exact bkv_str;exact bkv_ts;rfl;k_is;k_is;k_is;(with_unfolding_all rfl);walk_at "n";exact opw_item bo.r_ts bo.g_ts (by first | (simp [rawOf];done) | (simp [rawOf];walk_at "o")) (by walk_at "o") (by walk_at "o") (item_at (map_at ha));walk_at "1";exact ev_str;exact evs_nil;rfl;rfl;rfl;exact c_want hK bo bl ha;walk_at "k";rfl;rfl;exact Fn.quiet (by walk_at "f");rfl;walk_at "6";(with_reducible apply ex_if (b:=true));walk_at "5";walk_at "4";walk_at "n";walk_at "n";walk_at "c";(with_unfolding_all rfl);exact beq_self_eq_true _
  ·intro _
   walk_at "6";(with_reducible apply ex_ret;apply ev_attr);assumption;walk_at "n";exact bo.obj;exact bkv_str;exact bkv_true;rfl;k_is;k_is;k_is;(with_unfolding_all rfl)
  intro h;cases h
theorem c_eqne (hK:(KZ B.w.params).In B.h₁) (bo:BOk R D) (bl:bk.tms.length≤10000) {a c:Nat} {u v:Tm} (ha:bk.tms[a]?=some u) (hc:bk.tms[c]?=some v) (hs:v.sort=u.sort) (ne:a≠c) (h1:1≤bk.tms.length):FS (B.sys R lo) 2 375 [.v (.ref D.b),.d (.int (a:Int)),.d (.int (c:Int))] (wB D σ bk) (.d (.int (((bk.make (eqT a c)).1:Nat):Int))) (wB D σ (bk.make (eqT a c)).2):=by
 refine fs_def (names:=["self","a","b"]) hK ?h_12
 case h_12=>
  intro env f
  change Ex _ _ _ [("self",_),("a",_),("b",_)] _ _ _
  have tl:=(List.getElem?_eq_some_iff.mp ha).1
  have hwant:=c_want (lo:=lo) (σ:=σ) hK bo bl (wh:="=") hc
  rw [hs] at hwant
  walk_at "2";(with_reducible apply ex_expr;apply ev_methd);assumption;walk_at "n";exact bo.obj;rfl;exact bkv_off (by decide +kernel);k_is;k_is;k_is;k_is;rfl;walk_at "1";walk_at "n";walk_at "1";(with_reducible apply ev_subW;apply ev_attr);assumption;walk_at "n";exact bo.obj;exact bkv_str;exact bkv_ts;rfl;k_is;k_is;k_is;(with_unfolding_all rfl);walk_at "n";exact opw_item bo.r_ts bo.g_ts (by first | (simp [rawOf];done) | (simp [rawOf];walk_at "o")) (by walk_at "o") (by walk_at "o") (item_at (map_at ha));walk_at "1";exact ev_str;exact evs_nil;rfl;rfl;rfl;exact hwant;walk_at "k";rfl;rfl;exact Fn.quiet (by walk_at "f");rfl;walk_at "2"
  ·with_reducible apply ex_if (b:=false)
   ·walk_at "5"
    walk_at "4";walk_at "n";walk_at "n";walk_at "c";(with_unfolding_all rfl)
    rw [beq_eq_false_iff_ne];walk_at "o"
   intro h;cases h
   intro _
   exact ex_nil
  walk_at "6";(with_reducible apply ex_ret;apply ev_methd);assumption;walk_at "n";exact bo.obj;rfl;exact bkv_off (by decide +kernel);k_is;k_is;k_is;k_is;rfl
  ·walk_at "1"
   exact ev_str
   ·walk_at "1"
    ·with_reducible apply ev_is (b:=.d (.tuple ((eqT a c).args.map .int)))
     ·with_reducible apply ev_tuple
      ·walk_at "3"
       ·with_reducible apply ev_callb
        ((with_reducible apply ev_blt);assumption;walk_at "f";rfl;k_is;exact bb_min;decide;decide);walk_at "1";walk_at "n";walk_at "1";walk_at "n";exact evs_nil;rfl;rfl
        ·(with_reducible first | exact blt_abs | exact blt_sum | exact blt_min | exact blt_max)
        rfl;rfl
       ·walk_at "3"
        ·with_reducible apply ev_callb
         ((with_reducible apply ev_blt);assumption;walk_at "f";rfl;k_is;exact bb_max;decide;decide);walk_at "1";walk_at "n";walk_at "1";walk_at "n";exact evs_nil;rfl;rfl
         ·(with_reducible first | exact blt_abs | exact blt_sum | exact blt_min | exact blt_max)
         rfl;rfl
        exact evd_nil;rfl
       rfl
      rfl
     rw [show (eqT a c).args.map PyData.int=[.int ((min a c:Nat):Int),.int ((max a c:Nat):Int)] from rfl]
     have e1:(if (c:Int)<(a:Int) then (c:Int) else (a:Int))=((min a c:Nat):Int):=by split <;> walk_at "o"
     have e2:(if (a:Int)<(c:Int) then (c:Int) else (a:Int))=((max a c:Nat):Int):=by split <;> walk_at "o"
     rw [e1,e2]
    walk_at "1";((with_reducible apply ev_globi);assumption;walk_at "f";rfl;k_is;decide);walk_at "1";exact ev_int;exact evs_nil;rfl;rfl;rfl
   rfl
  exact c_make (t:=eqT a c) hK bo bl ok_eq h1;walk_at "k";rfl;rfl
theorem c_declare (hK:(KZ B.w.params).In B.h₁) (bo:BOk R D) (bl:bk.tms.length≤10000) {nm:Str} {s:Int} (fl:bk.fns.length≤10000) (rl:bk.frs.length≤10000):FS (B.sys R lo) 1 158 [.v (.ref D.b),.d (.str nm),.d (.tuple []),.d (.int s)] (wB D σ bk) (.d (.int (bk.fns.length:Int))) (wB D σ { bk with fns:=bk.fns++[nm],frs:=bk.frs++[s] }):=by
 refine fs_def (names:=["self","name","arg_sorts","result"]) hK ?h_13
 case h_13=>
  intro env f
  change Ex _ _ _ [("self",_),("name",_),("arg_sorts",_),("result",_)] _ _ _
  have e:rawOf { bk with fns:=bk.fns++[nm],frs:=bk.frs++[s] } = { rawOf bk with fn:=(rawOf bk).fn++[.str nm],fa:=(rawOf bk).fa++[.tuple []],fr:=(rawOf bk).fr++[.int s] }:=by unfold rawOf;simp
  rw [show wB D σ { bk with fns:=bk.fns++[nm],frs:=bk.frs++[s] }=setRaw D σ (rawOf { bk with fns:=bk.fns++[nm],frs:=bk.frs++[s] }) from rfl,e]
  walk_at "2";(with_reducible apply ex_expr;apply ev_methb;apply ev_attr);assumption;walk_at "n";exact bo.obj;exact bkv_str;exact bkv_fn;rfl;k_is;k_is;k_is;(with_unfolding_all rfl);exact meth_list bo.r_fn bo.g_fn PySem.F.slot_list_append rfl;walk_at "1";walk_at "n";exact evs_nil;rfl;exact bact_fn bo (by simp [rawOf];walk_at "o");rfl;rfl;rfl;exact Fn.quiet (by walk_at "f");rfl;walk_at "2";(with_reducible apply ex_expr;apply ev_methb;apply ev_attr);assumption;walk_at "n";exact bo.obj;exact bkv_str;exact bkv_fa;rfl;k_is;k_is;k_is;(with_unfolding_all rfl);exact meth_list bo.r_fa bo.g_fa PySem.F.slot_list_append rfl;walk_at "1";(with_reducible apply ev_callt);((with_reducible apply ev_blt);assumption;walk_at "f";rfl;k_is;exact bb_tuple;decide;decide);walk_at "1";walk_at "n";exact evs_nil;rfl;exact typ_tuple_tuple;rfl;rfl;exact evs_nil;rfl;exact bact_fa bo (by simp [rawOf];walk_at "o");rfl;rfl;rfl;exact Fn.quiet (by walk_at "f");rfl;walk_at "2";(with_reducible apply ex_expr;apply ev_methb;apply ev_attr);assumption;walk_at "n";exact bo.obj;exact bkv_str;exact bkv_fr;rfl;k_is;k_is;k_is;(with_unfolding_all rfl);exact meth_list bo.r_fr bo.g_fr PySem.F.slot_list_append rfl;walk_at "1";walk_at "n";exact evs_nil;rfl;exact bact_fr bo (by simp [rawOf];walk_at "o");rfl;rfl;rfl;exact Fn.quiet (by walk_at "f");rfl;walk_at "6";(with_reducible apply ex_ret)
  with_reducible apply ev_is (b:=.d (.int (bk.fns.length:Int)))
  (with_reducible apply ev_bin;apply ev_callbW);((with_reducible apply ev_blt);assumption;walk_at "f";rfl;k_is;exact bb_len;decide;decide);walk_at "1";(with_reducible apply ev_attr);assumption;walk_at "n";exact bo.obj;exact bkv_str;exact bkv_fn;rfl;k_is;k_is;k_is;(with_unfolding_all rfl);exact evs_nil;rfl;exact opw_fst (c:=.d (.int _)) bo.r_fn bo.g_fn trivial (blt_len_list (by simp [rawOf];walk_at "o"));rfl;rfl;exact ev_int;exact bin_sub
  simp [rawOf]
theorem c_fresh (hK:(KZ B.w.params).In B.h₁) (bo:BOk R D) (bl:bk.tms.length≤10000) {nm:Str} {s:Int} (fl:bk.fns.length≤10000) (rl:bk.frs.length≤10000) (h1:1≤bk.tms.length):FS (B.sys R lo) 2 172 [.v (.ref D.b),.d (.str nm),.d (.int s)] (wB D σ bk) (.d (.int (((freshC bk nm s).1:Nat):Int))) (wB D σ (freshC bk nm s).2):=by
 refine fs_def (names:=["self","name","s"]) hK ?h_14
 case h_14=>
  intro env f
  change Ex _ _ _ [("self",_),("name",_),("s",_)] _ _ _
  walk_at "6";(with_reducible apply ex_ret;apply ev_methd);assumption;walk_at "n";exact bo.obj;rfl;exact bkv_off (by decide +kernel);k_is;k_is;k_is;k_is;rfl;walk_at "1";exact ev_str;walk_at "1";(with_reducible apply ev_tuple);exact evd_nil;rfl;walk_at "1";walk_at "n";walk_at "1";(with_reducible apply ev_methd);assumption;walk_at "n";exact bo.obj;rfl;exact bkv_off (by decide +kernel);k_is;k_is;k_is;k_is;rfl;walk_at "1";walk_at "n";walk_at "1";(with_reducible apply ev_tuple);exact evd_nil;rfl;walk_at "1";walk_at "n";exact evs_nil;rfl;rfl;rfl;exact c_declare hK bo bl fl rl;walk_at "k";rfl;rfl;exact evs_nil;rfl;rfl;rfl;rfl;exact c_make (t:=⟨"app",[],s,(bk.fns.length:Int)⟩) (bk:={ bk with fns:=bk.fns++[nm],frs:=bk.frs++[s] }) hK bo bl ok_app h1;walk_at "k";rfl;rfl
end
section
variable {B:Base} {R:Addr→Prop} {lo:∀ a,R a→B.h₁.get? a=none} {σ:Sto} {D:BankD} {bk:Bk}
@[reducible] noncomputable def bk1 (w:Nat):Bk:=⟨T3,["Bool","Int","Real",bvName w],[0,0,0,w],[],[],[((w:Int),3)]⟩
theorem bv_log {w:Nat} (hw:w=1∨w=2∨w=3):((w:Nat):Int).natAbs.log2<1920:=by rcases hw with rfl | rfl | rfl <;> decide
theorem bv_len {w:Nat} (hw:w=1∨w=2∨w=3):(Str.empty ++ "(_ BitVec "++Str.ofString (toString ((w:Nat):Int)) ++ ")").length≤sizeLine:=by rcases hw with rfl | rfl | rfl <;> decide +kernel
theorem cmp_ints_eq {S:Sys} {a b:List Int}:Cmp S .Eq (.d (.list (a.map .int))) (.d (.list (b.map .int))) (.d (.bool (a == b))):=by
 have sh:∀ a:List Int,SeqAt.shaped (.list (a.map .int))=true:=fun a=>by
  have h1:∀ a:List Int,PyData.canLayAll0 (a.map .int)=true∧PyData.depthAll (a.map .int)≤1:=fun a=>by
   induction a with
   | nil=>simp [PyData.canLayAll0,PyData.depthAll]
   | cons x a ih=>simp only [List.map_cons,PyData.canLayAll0,PyData.canLay0,PyData.depthAll,PyData.depth];exact ⟨by simpa using ih.1,by have:=ih.2;walk_at "o"⟩
  unfold SeqAt.shaped
  refine Bool.and_eq_true_iff.mpr ⟨by simpa [PyData.canLay0] using (h1 a).1,decide_eq_true ?_⟩
  have:=(h1 a).2
  simp only [PyData.depth]
  walk_at "o"
 have:=cmp_data_eq (S:=S) (sh a) (sh b)
 simp only [PyData.eqv,ints_eqv] at this
 exact this
theorem any_ints {cl:List Int} {c:Int}:((cl.map PyData.int).any fun y=>PyData.eqv y (.int c))=cl.contains c:=by
 induction cl with
 | nil=>rfl
 | cons x cl ih=>
  rw [List.map_cons,List.any_cons,ih,List.contains_cons]
  congr 1
  show (x == c)=(c == x)
  exact Bool.beq_comm
theorem cmp_in_ints {S:Sys} {cl:List Int} {c:Int}:Cmp S .In (.d (.int c)) (.d (.tuple (cl.map .int))) (.d (.bool (cl.contains c))):=by
 have h1:PyData.canLayAll0 (cl.map .int)=true:=by
  induction cl with
  | nil=>simp [PyData.canLayAll0]
  | cons x a ih=>simp only [List.map_cons,PyData.canLayAll0,PyData.canLay0];simpa using ih
 have:=cmp_in_tuple (S:=S) (d:=.int c) (xs:=cl.map .int) h1 rfl (by simp [PyData.depth])
 rwa [any_ints] at this
theorem cmp_in_intl {S:Sys} {cl:List Int} {c:Int}:Cmp S .In (.d (.int c)) (.d (.list (cl.map .int))) (.d (.bool (cl.contains c))):=by
 have h1:PyData.canLayAll0 (cl.map .int)=true:=by
  induction cl with
  | nil=>simp [PyData.canLayAll0]
  | cons x a ih=>simp only [List.map_cons,PyData.canLayAll0,PyData.canLay0];simpa using ih
 have:=cmp_in_list (S:=S) (d:=.int c) (xs:=cl.map .int) h1 rfl (by simp [PyData.depth])
 rwa [any_ints] at this
noncomputable def runLine (bk:Bk) (cl:List Int) (x y:Nat):List Nat→List Int→Bool × List Int
 | [],line=>(true,line)
 | i::r,line=>
  if bitK bk x i=0∨bitK bk y i=0 then (false,line)
  else match there bk cl (bitK bk x i) (bitK bk y i) with
   | []=>(false,line)
   | e::_=>runLine bk cl x y r (line++[e])
theorem loop_run {bk:Bk} {cl:List Int} {x y:Nat}:∀ {is:List Nat} {line:List Int},judgeLoop bk cl x y is line=if (runLine bk cl x y is line).1=true then (if isort cl=isort (runLine bk cl x y is line).2 then ("" : Str) else "bits") else "bits"
 | [],line=>rfl
 | i::r,line=>by
  rw [judgeLoop,runLine]
  by_cases h:bitK bk x i=0∨bitK bk y i=0
  ·rw [if_pos h,if_pos h];rfl
  rw [if_neg h,if_neg h]
  cases there bk cl (bitK bk x i) (bitK bk y i) with
  | nil=>rfl
  | cons e _=>exact loop_run
theorem runLine_len {bk:Bk} {cl:List Int} {x y:Nat}:∀ {is:List Nat} {line:List Int},(runLine bk cl x y is line).2.length≤line.length+is.length
 | [],line=>Nat.le_refl _
 | i::r,line=>by
  rw [runLine]
  split
  ·simp
  cases there bk cl (bitK bk x i) (bitK bk y i) with
  | nil=>simp
  | cons e _=>
   have:=runLine_len (bk:=bk) (cl:=cl) (x:=x) (y:=y) (is:=r) (line:=line++[e])
   rw [List.length_append,List.length_singleton] at this
   rw [List.length_cons]
   exact Nat.le_trans this (by walk_at "o")
theorem turns_line {S:Sys} {n:Nat} {env:Env} {ρ:List (Str × AV)} {body:List Stmt} {xn:Str} {bk:Bk} {cl:List Int} {x y:Nat} (W:List Int→Sto) (hu:(ρ.all fun p=>p.1 != xn)=true) (N:Nat):∀ (is:List Nat) (line:List Int),line.length+is.length≤N →
  (∀ i∈is,∀ line:List Int,line.length≤N →
   ((bitK bk x i=0∨bitK bk y i=0)→Ex S n env ((xn,.d (.int (i:Int)))::ρ) (W line) (execs body env) (.ret (.d (.str "bits")) (W line))) ∧
   (¬(bitK bk x i=0∨bitK bk y i=0)→there bk cl (bitK bk x i) (bitK bk y i)=[]→Ex S n env ((xn,.d (.int (i:Int)))::ρ) (W line) (execs body env) (.ret (.d (.str "bits")) (W line))) ∧
   (∀ e r,¬(bitK bk x i=0∨bitK bk y i=0)→there bk cl (bitK bk x i) (bitK bk y i)=e::r→Ex S n env ((xn,.d (.int (i:Int)))::ρ) (W line) (execs body env) (.next ρ (W (line++[e]))))) →
  Turns S n env xn body (is.map fun i=>.int (i:Nat)) ρ (W line) (if (runLine bk cl x y is line).1=true then .next ρ (W (runLine bk cl x y is line).2) else .ret (.d (.str "bits")) (W (runLine bk cl x y is line).2))
 | [],line,_,_=>.nil
 | i::r,line,hN,h=>by
  obtain ⟨h1,h2,h3⟩:=h i (.head _) line (by walk_at "o")
  rw [runLine]
  by_cases hb:bitK bk x i=0∨bitK bk y i=0
  ·rw [if_pos hb];exact .ret (upd_new hu) (h1 hb)
  rw [if_neg hb]
  cases ht:there bk cl (bitK bk x i) (bitK bk y i) with
  | nil=>exact .ret (upd_new hu) (h2 hb ht)
  | cons e rest=>
   refine .cons (upd_new hu) (h3 e rest hb ht) (turns_line W hu N r (line++[e]) ?_ fun i hi=>h i (.tail _ hi))
   rw [List.length_append,List.length_singleton];rw [List.length_cons] at hN;walk_at "o"
theorem c_bvnew (hK:(KZ B.w.params).In B.h₁) (bo:BOk R D) {w:Nat} (hw:w=1∨w=2∨w=3):FS (B.sys R lo) 1 534 [.v (.ref D.b),.d (.int (w:Int))] (wB D σ bk0) (.d (.int 3)) (wB D σ (bk1 w)):=by
 refine fs_def (names:=["self","width"]) hK ?h_1
 case h_1=>
  intro env f
  change Ex _ _ _ [("self",_),("width",_)] _ _ _
  have e:rawOf (bk1 w) = { rawOf bk0 with sn:=(rawOf bk0).sn++[.str (Str.empty ++ "(_ BitVec "++Str.ofString (toString ((w:Nat):Int)) ++ ")")],sw:=(rawOf bk0).sw++[.int (w:Int)],bv:=kvSet (rawOf bk0).bv (.int (w:Int)) (.d (.int 3)) }:=rfl
  rw [show wB D σ (bk1 w)=setRaw D σ (rawOf (bk1 w)) from rfl,e]
  walk_at "2"
  ·with_reducible apply ex_if (b:=false)
   ·walk_at "5"
    walk_at "4";walk_at "n";exact ev_int;walk_at "c";(with_unfolding_all rfl)
    rw [decide_eq_false_iff_not];walk_at "o"
   intro h;cases h
   intro _
   exact ex_nil
  walk_at "2"
  ·with_reducible apply ex_if (b:=false)
   ·walk_at "5"
    walk_at "4";walk_at "n";((with_reducible apply ev_globi);assumption;walk_at "f";rfl;k_is;decide);walk_at "c";(with_unfolding_all rfl)
    rw [decide_eq_false_iff_not];walk_at "o"
   intro h;cases h
   intro _
   exact ex_nil
  walk_at "2"
  ·with_reducible apply ex_if (b:=true)
   walk_at "5";(with_reducible apply tr_cmpW);walk_at "n";(with_reducible apply ev_attr);assumption;walk_at "n";exact bo.obj;exact bkv_str;exact bkv_bv;rfl;k_is;k_is;k_is;(with_unfolding_all rfl);exact opw_dnotin bo.r_bv bo.g_bv (.int _) bo.s_bv;(with_unfolding_all rfl);rfl
   ·intro _
    walk_at "2";(with_reducible apply ex_expr;apply ev_methb;apply ev_attr);assumption;walk_at "n";exact bo.obj;exact bkv_str;exact bkv_sn;rfl;k_is;k_is;k_is;(with_unfolding_all rfl);exact meth_list bo.r_sn bo.g_sn PySem.F.slot_list_append rfl;walk_at "1";(with_reducible apply ev_fstr);walk_at "n";exact bv_log hw;exact bv_len hw;exact evs_nil;rfl;exact bact_sn bo (by simp [rawOf]);rfl;rfl;rfl;exact Fn.quiet (by walk_at "f");rfl;walk_at "2";(with_reducible apply ex_expr;apply ev_methb;apply ev_attr);assumption;walk_at "n";exact bo.obj;exact bkv_str;exact bkv_sw;rfl;k_is;k_is;k_is;(with_unfolding_all rfl);exact meth_list bo.r_sw bo.g_sw PySem.F.slot_list_append rfl;walk_at "1";walk_at "n";exact evs_nil;rfl;exact bact_sw bo (by simp [rawOf]);rfl;rfl;rfl;exact Fn.quiet (by walk_at "f");rfl;walk_at "2"
    ·with_reducible apply bex_bv
     exact bo
     ·with_reducible apply ev_is (b:=.d (.int 3))
      (with_reducible apply ev_bin;apply ev_callbW);((with_reducible apply ev_blt);assumption;walk_at "f";rfl;k_is;exact bb_len;decide;decide);walk_at "1";(with_reducible apply ev_attr);assumption;walk_at "n";exact bo.obj;exact bkv_str;exact bkv_sn;rfl;k_is;k_is;k_is;(with_unfolding_all rfl);exact evs_nil;rfl;exact opw_fst (c:=.d (.int _)) bo.r_sn bo.g_sn trivial (blt_len_list (by simp [rawOf]));rfl;rfl;exact ev_int;exact bin_sub;rfl
     (with_reducible apply ev_attr);assumption;walk_at "n";exact bo.obj;exact bkv_str;exact bkv_bv;rfl;k_is;k_is;k_is;(with_unfolding_all rfl);walk_at "n";exact KeyD.int _
     ·simp [rawOf]
     rfl
    exact ex_nil
   intro h;cases h
  walk_at "6";(with_reducible apply ex_ret;apply ev_subW;apply ev_attr);assumption;walk_at "n";exact bo.obj;exact bkv_str;exact bkv_bv;rfl;k_is;k_is;k_is;(with_unfolding_all rfl);walk_at "n";exact opw_ditem bo.r_bv bo.g_bv (.int _) (kvGet_same (by intro p hp;simp [rawOf] at hp) (.int _))
theorem c_bvold (hK:(KZ B.w.params).In B.h₁) (bo:BOk R D) {w:Nat} {v:Int} (hw:w=1∨w=2∨w=3) (hb:bk.bvs=[((w:Int),v)]):FS (B.sys R lo) 1 534 [.v (.ref D.b),.d (.int (w:Int))] (wB D σ bk) (.d (.int v)) (wB D σ bk):=by
 refine fs_def (names:=["self","width"]) hK ?h_2
 case h_2=>
  intro env f
  change Ex _ _ _ [("self",_),("width",_)] _ _ _
  have hget:kvGet (rawOf bk).bv (.int (w:Int))=some (.d (.int v)):=by unfold rawOf;dsimp only;rw [hb];exact kvGet_hit (by simp [PyData.eqv])
  walk_at "2"
  ·with_reducible apply ex_if (b:=false)
   ·walk_at "5"
    walk_at "4";walk_at "n";exact ev_int;walk_at "c";(with_unfolding_all rfl)
    rw [decide_eq_false_iff_not];walk_at "o"
   intro h;cases h
   intro _
   exact ex_nil
  walk_at "2"
  ·with_reducible apply ex_if (b:=false)
   ·walk_at "5"
    walk_at "4";walk_at "n";((with_reducible apply ev_globi);assumption;walk_at "f";rfl;k_is;decide);walk_at "c";(with_unfolding_all rfl)
    rw [decide_eq_false_iff_not];walk_at "o"
   intro h;cases h
   intro _
   exact ex_nil
  walk_at "2"
  ·with_reducible apply ex_if (b:=false)
   ·walk_at "5"
    (with_reducible apply tr_cmpW);walk_at "n";(with_reducible apply ev_attr);assumption;walk_at "n";exact bo.obj;exact bkv_str;exact bkv_bv;rfl;k_is;k_is;k_is;(with_unfolding_all rfl);exact opw_dnotin bo.r_bv bo.g_bv (.int _) bo.s_bv;(with_unfolding_all rfl)
    rw [hget];rfl
   intro h;cases h
   intro _
   exact ex_nil
  walk_at "6";(with_reducible apply ex_ret;apply ev_subW;apply ev_attr);assumption;walk_at "n";exact bo.obj;exact bkv_str;exact bkv_bv;rfl;k_is;k_is;k_is;(with_unfolding_all rfl);walk_at "n";exact opw_ditem bo.r_bv bo.g_bv (.int _) hget
theorem c_isint (hK:(KZ B.w.params).In B.h₁) {i:Int}:FS (B.sys R lo) 1 28 [.d (.int i)] σ (.d (.bool true)) σ:=by
 refine fs_def (names:=["thing"]) hK ?h_3
 case h_3=>
  intro env f
  change Ex _ _ _ [("thing",_)] _ _ _
  walk_at "6";(with_reducible apply ex_ret;apply ev_is)
  ·with_reducible apply ev_and2b
   (with_reducible apply ev_callb);((with_reducible apply ev_blt);assumption;walk_at "f";rfl;k_is;exact bb_isinstance;decide;decide);walk_at "1";walk_at "n";walk_at "1";((with_reducible apply ev_blt);assumption;walk_at "f";rfl;k_is;exact bb_int;decide;decide);exact evs_nil;rfl;rfl;exact blt_isi_int_int;rfl;rfl
   intro _
   (with_reducible apply ev_not;apply ev_callb);((with_reducible apply ev_blt);assumption;walk_at "f";rfl;k_is;exact bb_isinstance;decide;decide);walk_at "1";walk_at "n";walk_at "1";((with_reducible apply ev_blt);assumption;walk_at "f";rfl;k_is;exact bb_bool;decide;decide);exact evs_nil;rfl;rfl;exact blt_isi_int_bool;rfl;rfl
  rfl
theorem c_istup (hK:(KZ B.w.params).In B.h₁) {xs:List PyData}:FS (B.sys R lo) 1 28 [.d (.tuple xs)] σ (.d (.bool false)) σ:=by
 refine fs_def (names:=["thing"]) hK ?h_4
 case h_4=>
  intro env f
  change Ex _ _ _ [("thing",_)] _ _ _
  walk_at "6";(with_reducible apply ex_ret;apply ev_is;apply ev_and2b (c:=false);apply ev_callb);((with_reducible apply ev_blt);assumption;walk_at "f";rfl;k_is;exact bb_isinstance;decide;decide);walk_at "1";walk_at "n";walk_at "1";((with_reducible apply ev_blt);assumption;walk_at "f";rfl;k_is;exact bb_int;decide;decide);exact evs_nil;rfl;rfl;exact blt_isi_tuple_int;rfl;rfl;intro h;cases h;rfl
theorem c_same (hK:(KZ B.w.params).In B.h₁) {L:Addr} {a b:List Int} (rL:R L) (hL:σ L=some (.list (b.map .int))) (ha:a.length<64) (hb:b.length<64):FS (B.sys R lo) 1 35 [.d (.tuple (a.map .int)),.v (.ref L)] σ (.d (.bool (isort a == isort b))) σ:=by
 refine fs_def (names:=["one","other"]) hK ?h_5
 case h_5=>
  intro env f
  change Ex _ _ _ [("one",_),("other",_)] _ _ _
  walk_at "6";(with_reducible apply ex_ret;apply ev_cmp;apply ev_callb);((with_reducible apply ev_blt);assumption;walk_at "f";rfl;k_is;exact bb_sorted;decide;decide);walk_at "1";walk_at "n";exact evs_nil;rfl;exact blt_sorted_tuple ha;rfl;rfl;(with_reducible apply ev_callbW);((with_reducible apply ev_blt);assumption;walk_at "f";rfl;k_is;exact bb_sorted;decide;decide);walk_at "1";walk_at "n";exact evs_nil;rfl;exact opw_sorted rL hL hb;rfl;rfl;exact cmp_ints_eq;(with_unfolding_all rfl)
theorem c_keyint (hK:(KZ B.w.params).In B.h₁) (bo:BOk R D) (bl:bk.tms.length≤10000) {J dJ tb:Addr} (I:Judge R (wB D σ bk) J dJ D.b tb) {t i:Nat} (h:bitK bk t i≠0):FS (B.sys R lo) 2 672 [.v (.ref J),.d (.int (i:Int)),.d (.int (t:Int))] (wB D σ bk) (.d (.int (bitK bk t i:Int))) (wB D σ bk):=by
 refine fs_def (names:=["self","i","t"]) hK ?h_6
 case h_6=>
  intro env f
  change Ex _ _ _ [("self",_),("i",_),("t",_)] _ _ _
  walk_at "2";(with_reducible apply ex_assign);walk_at "f";walk_at "d";(with_reducible apply ev_methd);assumption;(with_reducible apply ev_attr);assumption;walk_at "n";exact I;exact judge_str;exact judge_bank;rfl;k_is;k_is;k_is;(with_unfolding_all rfl);exact bo.obj;rfl;exact bkv_off (by decide +kernel);k_is;k_is;k_is;k_is;rfl;walk_at "1";exact ev_str;walk_at "1";(with_reducible apply ev_tuple);walk_at "3";walk_at "n";exact evd_nil;rfl;rfl;walk_at "1";((with_reducible apply ev_globi);assumption;walk_at "f";rfl;k_is;decide);walk_at "1";walk_at "n";exact evs_nil;rfl;rfl;rfl;rfl;exact c_find (t:=bitT t i) hK bo bl ok_bit;walk_at "k";rfl;rfl;walk_at "u";rfl;walk_at "6";(with_reducible apply ex_ret;apply ev_ite (b:=true));walk_at "5";walk_at "4";walk_at "n";exact ev_int;walk_at "c";(with_unfolding_all rfl);exact bne_iff_ne.mpr (by unfold bitK at h;walk_at "o")
  ·intro _
   walk_at "n"
  intro h;cases h
theorem c_keytup (hK:(KZ B.w.params).In B.h₁) (bo:BOk R D) (bl:bk.tms.length≤10000) {J dJ tb:Addr} (I:Judge R (wB D σ bk) J dJ D.b tb) {t i:Nat} (h:bitK bk t i=0):FS (B.sys R lo) 2 672 [.v (.ref J),.d (.int (i:Int)),.d (.int (t:Int))] (wB D σ bk) (.d (.tuple [.str "bit",.int (i:Int),.int (t:Int)])) (wB D σ bk):=by
 refine fs_def (names:=["self","i","t"]) hK ?h_7
 case h_7=>
  intro env f
  change Ex _ _ _ [("self",_),("i",_),("t",_)] _ _ _
  walk_at "2";(with_reducible apply ex_assign);walk_at "f";walk_at "d";(with_reducible apply ev_methd);assumption;(with_reducible apply ev_attr);assumption;walk_at "n";exact I;exact judge_str;exact judge_bank;rfl;k_is;k_is;k_is;(with_unfolding_all rfl);exact bo.obj;rfl;exact bkv_off (by decide +kernel);k_is;k_is;k_is;k_is;rfl;walk_at "1";exact ev_str;walk_at "1";(with_reducible apply ev_tuple);walk_at "3";walk_at "n";exact evd_nil;rfl;rfl;walk_at "1";((with_reducible apply ev_globi);assumption;walk_at "f";rfl;k_is;decide);walk_at "1";walk_at "n";exact evs_nil;rfl;rfl;rfl;rfl;exact c_find (t:=bitT t i) hK bo bl ok_bit;walk_at "k";rfl;rfl;walk_at "u";rfl;walk_at "6";(with_reducible apply ex_ret;apply ev_ite (b:=false))
  ·walk_at "5"
   walk_at "4";walk_at "n";exact ev_int;walk_at "c";(with_unfolding_all rfl)
   unfold bitK at h;rw [h];rfl
  intro h;cases h
  intro _
  (with_reducible apply ev_tuple);walk_at "3";exact ev_str;walk_at "3";walk_at "n";walk_at "3";walk_at "n";exact evd_nil;rfl;rfl;rfl;rfl
theorem c_unlike (hK:(KZ B.w.params).In B.h₁) (bo:BOk R D) (bl:bk.tms.length≤10000) {J dJ tb:Addr} (I:Judge R (wB D σ bk) J dJ D.b tb) {a c:Nat}:FS (B.sys R lo) 2 740 [.v (.ref J),.d (.int (a:Int)),.d (.int (c:Int))] (wB D σ bk) (.d (.int (bk.find (xorT a c):Int))) (wB D σ bk):=by
 refine fs_def (names:=["self","a","b"]) hK ?h_8
 case h_8=>
  intro env f
  change Ex _ _ _ [("self",_),("a",_),("b",_)] _ _ _
  walk_at "6";(with_reducible apply ex_ret;apply ev_methd);assumption;(with_reducible apply ev_attr);assumption;walk_at "n";exact I;exact judge_str;exact judge_bank;rfl;k_is;k_is;k_is;(with_unfolding_all rfl);exact bo.obj;rfl;exact bkv_off (by decide +kernel);k_is;k_is;k_is;k_is;rfl;walk_at "1";exact ev_str;walk_at "1";(with_reducible apply ev_tuple);walk_at "3";walk_at "n";walk_at "3";walk_at "n";exact evd_nil;rfl;rfl;rfl;walk_at "1";((with_reducible apply ev_globi);assumption;walk_at "f";rfl;k_is;decide);walk_at "1";exact ev_int;exact evs_nil;rfl;rfl;rfl;rfl;exact c_find (t:=xorT a c) hK bo bl ok_xor;walk_at "k";rfl;rfl
theorem c_note1 (hK:(KZ B.w.params).In B.h₁) (bo:BOk R D) (bl:bk.tms.length≤10000) {J dJ tb:Addr} (I:Judge R (wB D σ bk) J dJ D.b tb) {t:Nat} {u:Tm} {so:List PyData} (h:bk.tms[t]?=some u) (hop:(u.op == "=")=false) (hok:PyData.strOk u.op=true):FS (B.sys R lo) 2 733 [.v (.ref J),.d (.tuple so),.d (.int (t:Int))] (wB D σ bk) (.d (.str "note")) (wB D σ bk):=by
 refine fs_def (names:=["self","some","t"]) hK ?h_9
 case h_9=>
  intro env f
  change Ex _ _ _ [("self",_),("some",_),("t",_)] _ _ _
  walk_at "6";(with_reducible apply ex_if (b:=true))
  ·walk_at "5"
   ·with_reducible apply tr_bool
    (with_reducible apply tr_or2 (c:=false));walk_at "4";(with_reducible apply ev_methd);assumption;(with_reducible apply ev_attr);assumption;walk_at "n";exact I;exact judge_str;exact judge_bank;rfl;k_is;k_is;k_is;(with_unfolding_all rfl);exact bo.obj;rfl;exact bkv_off (by decide +kernel);k_is;k_is;k_is;k_is;rfl;walk_at "1";walk_at "n";exact evs_nil;rfl;exact c_op hK bo bl h;walk_at "k";rfl;rfl;exact ev_str;exact cmp_str_ne hok (by decide +kernel);(with_unfolding_all rfl)
    intro h;exact absurd h (by rw [hop];decide)
   rw [hop];rfl
  ·intro _
   walk_at "6";(with_reducible apply ex_ret);exact ev_str
  intro h;cases h
theorem c_note2 (hK:(KZ B.w.params).In B.h₁) (bo:BOk R D) (bl:bk.tms.length≤10000) {J dJ tb:Addr} (I:Judge R (wB D σ bk) J dJ D.b tb) {t x y:Nat} {u v:Tm} {s:Nat} {so:List PyData} (h:bk.tms[t]?=some u) (hop:u.op = "=") (hargs:u.args=[(x:Int),(y:Int)]) (hx:bk.tms[x]?=some v) (hs:v.sort=(s:Int)) (hw:bk.sws[s]?=some 0) (sl:bk.sws.length≤10000):FS (B.sys R lo) 2 733 [.v (.ref J),.d (.tuple so),.d (.int (t:Int))] (wB D σ bk) (.d (.str "note")) (wB D σ bk):=by
 refine fs_def (names:=["self","some","t"]) hK ?h_10
 case h_10=>
  intro env f
  change Ex _ _ _ [("self",_),("some",_),("t",_)] _ _ _
  have cargs:=c_args (lo:=lo) (σ:=σ) hK bo bl h
  rw [hargs] at cargs
  change FS _ _ _ _ _ (.d (.tuple [.int (x:Int),.int (y:Int)])) _ at cargs
  walk_at "6";(with_reducible apply ex_if (b:=true))
  ·walk_at "5"
   ·with_reducible apply tr_bool
    (with_reducible apply tr_or2);walk_at "4";(with_reducible apply ev_methd);assumption;(with_reducible apply ev_attr);assumption;walk_at "n";exact I;exact judge_str;exact judge_bank;rfl;k_is;k_is;k_is;(with_unfolding_all rfl);exact bo.obj;rfl;exact bkv_off (by decide +kernel);k_is;k_is;k_is;k_is;rfl;walk_at "1";walk_at "n";exact evs_nil;rfl;exact c_op hK bo bl h;walk_at "k";rfl;rfl;exact ev_str;exact cmp_str_ne (by rw [hop];decide +kernel) (by decide +kernel);(with_unfolding_all rfl)
    intro _
    walk_at "4";(with_reducible apply ev_methd);assumption;(with_reducible apply ev_attr);assumption;walk_at "n";exact I;exact judge_str;exact judge_bank;rfl;k_is;k_is;k_is;(with_unfolding_all rfl);exact bo.obj;rfl;exact bkv_off (by decide +kernel);k_is;k_is;k_is;k_is;rfl;walk_at "1";(with_reducible apply ev_sub;apply ev_methd);assumption;(with_reducible apply ev_attr);assumption;walk_at "n";exact I;exact judge_str;exact judge_bank;rfl;k_is;k_is;k_is;(with_unfolding_all rfl);exact bo.obj;rfl;exact bkv_off (by decide +kernel);k_is;k_is;k_is;k_is;rfl;walk_at "1";walk_at "n";exact evs_nil;rfl;exact cargs;walk_at "k";rfl;rfl;exact ev_int;walk_at "s";exact evs_nil;rfl;exact c_width hK bo bl hx hs hw sl;walk_at "k";rfl;rfl;exact ev_int;walk_at "c";(with_unfolding_all rfl)
   rw [hop];decide +kernel
  ·intro _
   walk_at "6";(with_reducible apply ex_ret);exact ev_str
  intro h;cases h
theorem c_unequal (hK:(KZ B.w.params).In B.h₁) (bo:BOk R D) (bl:bk.tms.length≤10000) {J dJ tb:Addr} (I:Judge R (wB D σ bk) J dJ D.b tb) {t x y w:Nat} {u v:Tm} {s:Nat} {cl:List Int} (h:bk.tms[t]?=some u) (hop:u.op = "=") (hargs:u.args=[(x:Int),(y:Int)]) (hx:bk.tms[x]?=some v) (hs:v.sort=(s:Int)) (hw:bk.sws[s]?=some ((w:Nat):Int)) (sl:bk.sws.length≤10000) (w3:w=1∨w=2∨w=3) (hcl:cl.length<64) :
  FS (B.sys R lo) 4 733 [.v (.ref J),.d (.tuple (cl.map .int)),.d (.int (t:Int))] (wB D σ bk) (.d (.str (judgeLoop bk cl x y (List.range w) [(t:Int)]))) (wB D σ bk):=by
 refine fs_def (names:=["self","some","t"]) hK ?h_11
 case h_11=>
  intro env f'
  change Ex _ _ _ [("self",_),("some",_),("t",_)] _ _ _
  have cargs:=c_args (lo:=lo) (σ:=σ) hK bo bl h
  rw [hargs] at cargs
  change FS _ _ _ _ _ (.d (.tuple [.int (x:Int),.int (y:Int)])) _ at cargs
  walk_at "2"
  ·with_reducible apply ex_if (b:=false)
   ·walk_at "5"
    ·with_reducible apply tr_bool
     (with_reducible apply tr_or2);walk_at "4";(with_reducible apply ev_methd);assumption;(with_reducible apply ev_attr);assumption;walk_at "n";exact I;exact judge_str;exact judge_bank;rfl;k_is;k_is;k_is;(with_unfolding_all rfl);exact bo.obj;rfl;exact bkv_off (by decide +kernel);k_is;k_is;k_is;k_is;rfl;walk_at "1";walk_at "n";exact evs_nil;rfl;exact c_op hK bo bl h;walk_at "k";rfl;rfl;exact ev_str;exact cmp_str_ne (by rw [hop];decide +kernel) (by decide +kernel);(with_unfolding_all rfl)
     intro _
     walk_at "4";(with_reducible apply ev_methd);assumption;(with_reducible apply ev_attr);assumption;walk_at "n";exact I;exact judge_str;exact judge_bank;rfl;k_is;k_is;k_is;(with_unfolding_all rfl);exact bo.obj;rfl;exact bkv_off (by decide +kernel);k_is;k_is;k_is;k_is;rfl;walk_at "1";(with_reducible apply ev_sub;apply ev_methd);assumption;(with_reducible apply ev_attr);assumption;walk_at "n";exact I;exact judge_str;exact judge_bank;rfl;k_is;k_is;k_is;(with_unfolding_all rfl);exact bo.obj;rfl;exact bkv_off (by decide +kernel);k_is;k_is;k_is;k_is;rfl;walk_at "1";walk_at "n";exact evs_nil;rfl;exact cargs;walk_at "k";rfl;rfl;exact ev_int;walk_at "s";exact evs_nil;rfl;exact c_width hK bo bl hx hs hw sl;walk_at "k";rfl;rfl;exact ev_int;walk_at "c";(with_unfolding_all rfl)
    rw [hop,show (((w:Nat):Int) == 0)=false from by rw [beq_eq_false_iff_ne];walk_at "o"];decide +kernel
   intro h;cases h
   intro _
   exact ex_nil
  walk_at "2";(with_reducible apply ex_unpack);walk_at "f";walk_at "ns";decide;walk_at "da";(with_reducible apply ev_methd);assumption;(with_reducible apply ev_attr);assumption;walk_at "n";exact I;exact judge_str;exact judge_bank;rfl;k_is;k_is;k_is;(with_unfolding_all rfl);exact bo.obj;rfl;exact bkv_off (by decide +kernel);k_is;k_is;k_is;k_is;rfl;walk_at "1";walk_at "n";exact evs_nil;rfl;exact cargs;walk_at "k";rfl;rfl;rfl;walk_at "w";walk_at "ua";rfl
  refine' ex_promote (x:="line") (m:=.list ([(t:Int)].map .int)) (σ₁:=wB D σ bk) (NB.nm (nb_plain (by walk_at "f") (by walk_at "d") (evn_list ?ev rfl) rfl)) (fun L nl nL=>?restq)
  case ev=>
   show EvD _ _ _ _ _ _ _ [.int (t:Int)] _
   walk_at "3";walk_at "n";exact evd_nil;rfl
  case restq=>
   have eL:∀ b,R b→b≠L:=fun b hb e=>nL (e▸hb)
   have Loff:=bo.off nL
   have bo2:=bo.more L
   have J2:∀ line:List Int,Judge (fun b=>R b∨b=L) (wB D (put σ L (.list (line.map .int))) bk) J dJ D.b tb:=fun line=>by have:=I.more (m:=.list (line.map .int)) nL;rwa [put_raw Loff] at this
   have rL:(fun b=>R b∨b=L) L:=.inr rfl
   have hL:∀ line:List Int,wB D (put σ L (.list (line.map .int))) bk L=some (.list (line.map .int)):=fun line=>(raw_off Loff).trans put_here
   refine' ⟨("line",.v (.ref L))::[("x",.d (.int (x:Int))),("y",.d (.int (y:Int))),("self",.v (.ref J)),("some",.d (.tuple (cl.map .int))),("t",.d (.int (t:Int)))],wB D (put σ L (.list ((runLine bk cl x y (List.range w) [(t:Int)]).2.map .int))) bk,upd_new rfl,?r1,fun b hb=>?r2⟩
   case r2=>show _=setRaw D (put σ L _) (rawOf bk) b;rw [← put_raw Loff];exact (put_there (eL b hb)).symm
   rw [put_raw Loff]
   have rl:=runLine_len (bk:=bk) (cl:=cl) (x:=x) (y:=y) (is:=List.range w) (line:=[(t:Int)])
   rw [List.length_range] at rl
   have lr:=loop_run (bk:=bk) (cl:=cl) (x:=x) (y:=y) (is:=List.range w) (line:=[(t:Int)])
   rw [lr]
   generalize hrun:runLine bk cl x y (List.range w) [(t:Int)]=run at rl lr ⊢
   have hact:∀ (e:Int) (line:List Int),line.length≤10→Act (B.sys (fun b=>R b∨b=L) (lo_more lo nl)) 0 [.v (.ref L),.d (.int e)] (wB D (put σ L (.list (line.map .int))) bk) (fun vs=>call (.builtin "list.append") vs) (.d .none) (wB D (put σ L (.list ((line++[e]).map .int))) bk):=fun e line hl=>by
    have:=act_append (lo:=lo_more lo nl) (x:=.int e) rL (hL line) (by simp;walk_at "o")
    rwa [put_raw Loff,put_put,show line.map PyData.int++[.int e]=(line++[e]).map .int by simp] at this
   by_cases hgo:run.1=true
   ·rw [if_pos hgo]
    walk_at "2"
    ·with_reducible apply ex_is
     ·with_reducible apply ex_for
      walk_at "f";walk_at "d";(with_reducible apply ev_callt);((with_reducible apply ev_blt);assumption;walk_at "f";rfl;k_is;exact bb_range;decide;decide);walk_at "1";(with_reducible apply ev_methd);assumption;(with_reducible apply ev_attr);assumption;walk_at "n";exact (J2 _);exact judge_str;exact judge_bank;rfl;k_is;k_is;k_is;(with_unfolding_all rfl);exact bo2.obj;rfl;exact bkv_off (by decide +kernel);k_is;k_is;k_is;k_is;rfl;walk_at "1";walk_at "n";exact evs_nil;rfl;exact c_width hK bo2 bl hx hs hw sl;walk_at "k";rfl;rfl;exact evs_nil;rfl;exact typ_range;rfl;rfl;exact iter_range (by walk_at "o")
      ·refine' turns_line (bk:=bk) (cl:=cl) (x:=x) (y:=y) (ρ:=("line",.v (.ref L))::[("x",.d (.int (x:Int))),("y",.d (.int (y:Int))),("self",.v (.ref J)),("some",.d (.tuple (cl.map .int))),("t",.d (.int (t:Int)))]) (fun line=>wB D (put σ L (.list (line.map .int))) bk) rfl 10 (List.range w) [(t:Int)] (by simp;walk_at "o") (fun i hi line hlen=>⟨fun hb=>?_,fun hb ht=>?_,fun e rest hb ht=>?_⟩)
       ·by_cases ha:bitK bk x i=0
        ·by_cases hy0:bitK bk y i=0
         ·walk_at "2"
          (with_reducible apply ex_unpack);walk_at "f";walk_at "ns";decide;walk_at "da";(with_reducible apply ev_tuple);walk_at "3";(with_reducible apply ev_methd);assumption;walk_at "n";exact J2 line;rfl;exact judge_off (by decide +kernel);k_is;k_is;k_is;k_is;rfl;walk_at "1";walk_at "n";walk_at "1";walk_at "n";exact evs_nil;rfl;rfl;exact c_keytup hK bo2 bl (J2 line) ha;walk_at "k";rfl;rfl;walk_at "3";(with_reducible apply ev_methd);assumption;walk_at "n";exact J2 line;rfl;exact judge_off (by decide +kernel);k_is;k_is;k_is;k_is;rfl;walk_at "1";walk_at "n";walk_at "1";walk_at "n";exact evs_nil;rfl;rfl;exact c_keytup hK bo2 bl (J2 line) hy0;walk_at "k";rfl;rfl;exact evd_nil;rfl;rfl;rfl;rfl;walk_at "w";walk_at "ua";rfl;walk_at "6";(with_reducible apply ex_if (b:=true))
          ·walk_at "5"
           ·with_reducible apply tr_bool
            (with_reducible apply tr_or2 (c:=false);apply tr_not;apply tr_val;apply ev_call);walk_at "g";walk_at "1";walk_at "n";exact evs_nil;rfl;exact c_istup hK;walk_at "k";exact hK _ _ (by k_is);rfl;rfl;rfl
            intro h;exact absurd h (by decide)
           walk_at "t"
          ·intro _
           walk_at "6";(with_reducible apply ex_ret);exact ev_str
          intro h;cases h
         walk_at "2";(with_reducible apply ex_unpack);walk_at "f";walk_at "ns";decide;walk_at "da";(with_reducible apply ev_tuple);walk_at "3";(with_reducible apply ev_methd);assumption;walk_at "n";exact J2 line;rfl;exact judge_off (by decide +kernel);k_is;k_is;k_is;k_is;rfl;walk_at "1";walk_at "n";walk_at "1";walk_at "n";exact evs_nil;rfl;rfl;exact c_keytup hK bo2 bl (J2 line) ha;walk_at "k";rfl;rfl;walk_at "3";(with_reducible apply ev_methd);assumption;walk_at "n";exact J2 line;rfl;exact judge_off (by decide +kernel);k_is;k_is;k_is;k_is;rfl;walk_at "1";walk_at "n";walk_at "1";walk_at "n";exact evs_nil;rfl;rfl;exact c_keyint hK bo2 bl (J2 line) hy0;walk_at "k";rfl;rfl;exact evd_nil;rfl;rfl;rfl;rfl;walk_at "w";walk_at "ua";rfl;walk_at "6";(with_reducible apply ex_if (b:=true))
         ·walk_at "5"
          ·with_reducible apply tr_bool
           (with_reducible apply tr_or2 (c:=false);apply tr_not;apply tr_val;apply ev_call);walk_at "g";walk_at "1";walk_at "n";exact evs_nil;rfl;exact c_istup hK;walk_at "k";exact hK _ _ (by k_is);rfl;rfl;rfl
           intro h;exact absurd h (by decide)
          walk_at "t"
         ·intro _
          walk_at "6";(with_reducible apply ex_ret);exact ev_str
         intro h;cases h
        have hy0:=hb.resolve_left ha
        walk_at "2";(with_reducible apply ex_unpack);walk_at "f";walk_at "ns";decide;walk_at "da";(with_reducible apply ev_tuple);walk_at "3";(with_reducible apply ev_methd);assumption;walk_at "n";exact J2 line;rfl;exact judge_off (by decide +kernel);k_is;k_is;k_is;k_is;rfl;walk_at "1";walk_at "n";walk_at "1";walk_at "n";exact evs_nil;rfl;rfl;exact c_keyint hK bo2 bl (J2 line) ha;walk_at "k";rfl;rfl;walk_at "3";(with_reducible apply ev_methd);assumption;walk_at "n";exact J2 line;rfl;exact judge_off (by decide +kernel);k_is;k_is;k_is;k_is;rfl;walk_at "1";walk_at "n";walk_at "1";walk_at "n";exact evs_nil;rfl;rfl;exact c_keytup hK bo2 bl (J2 line) hy0;walk_at "k";rfl;rfl;exact evd_nil;rfl;rfl;rfl;rfl;walk_at "w";walk_at "ua";rfl;walk_at "6";(with_reducible apply ex_if (b:=true))
        ·walk_at "5"
         ·with_reducible apply tr_bool
          (with_reducible apply tr_or2;apply tr_not;apply tr_val;apply ev_call);walk_at "g";walk_at "1";walk_at "n";exact evs_nil;rfl;exact c_isint hK;walk_at "k";exact hK _ _ (by k_is);rfl;rfl;rfl
          intro _
          (with_reducible apply tr_not;apply tr_val;apply ev_call);walk_at "g";walk_at "1";walk_at "n";exact evs_nil;rfl;exact c_istup hK;walk_at "k";exact hK _ _ (by k_is);rfl;rfl;rfl
         walk_at "t"
        ·intro _
         walk_at "6";(with_reducible apply ex_ret);exact ev_str
        intro h;cases h
       ·walk_at "2"
        (with_reducible apply ex_unpack);walk_at "f";walk_at "ns";decide;walk_at "da";(with_reducible apply ev_tuple);walk_at "3";(with_reducible apply ev_methd);assumption;walk_at "n";exact J2 line;rfl;exact judge_off (by decide +kernel);k_is;k_is;k_is;k_is;rfl;walk_at "1";walk_at "n";walk_at "1";walk_at "n";exact evs_nil;rfl;rfl;exact c_keyint hK bo2 bl (J2 line) (fun q=>hb (.inl q));walk_at "k";rfl;rfl;walk_at "3";(with_reducible apply ev_methd);assumption;walk_at "n";exact J2 line;rfl;exact judge_off (by decide +kernel);k_is;k_is;k_is;k_is;rfl;walk_at "1";walk_at "n";walk_at "1";walk_at "n";exact evs_nil;rfl;rfl;exact c_keyint hK bo2 bl (J2 line) (fun q=>hb (.inr q));walk_at "k";rfl;rfl;exact evd_nil;rfl;rfl;rfl;rfl;walk_at "w";walk_at "ua";rfl;walk_at "2"
        ·with_reducible apply ex_if (b:=false)
         ·walk_at "5"
          ·with_reducible apply tr_bool
           (with_reducible apply tr_or2;apply tr_not;apply tr_val;apply ev_call);walk_at "g";walk_at "1";walk_at "n";exact evs_nil;rfl;exact c_isint hK;walk_at "k";exact hK _ _ (by k_is);rfl;rfl;rfl
           intro _
           (with_reducible apply tr_not;apply tr_val;apply ev_call);walk_at "g";walk_at "1";walk_at "n";exact evs_nil;rfl;exact c_isint hK;walk_at "k";exact hK _ _ (by k_is);rfl;rfl;rfl
          rfl
         intro h;cases h
         intro _
         exact ex_nil
        walk_at "2"
        ·with_reducible apply ex_nb (xs:=(there bk cl (bitK bk x i) (bitK bk y i)).map .int)
         ·refine' nb_comp (ρc:=[("some",.d (.tuple (cl.map .int)))]) (by walk_at "f") ((f'.toFn.at _).trans rfl) ?cf2 ?it2 (iter_tuple (xs:=([((bk.find (xorT (bitK bk x i) (bitK bk y i)):Nat):Int),((bk.find (xorT (bitK bk y i) (bitK bk x i)):Nat):Int)]:List Int).map .int)) ?ct2 ?hz2 (swaps_yes (by walk_at "f") rfl rfl) (fun _u=>rfl)
          case cf2=>
           refine ⟨fun p hp hq=>?_,by decide,by decide,rfl,rfl,fun p hp=>?_⟩
           exact f'.cells _ (by revert p;decide)
           rw [List.mem_singleton.mp hp];exact ⟨by walk_at "m",rfl,rfl,by dsimp only;decide⟩
          case it2=>
           show Ev _ _ _ _ _ _ (.d (.tuple [.int ((bk.find (xorT (bitK bk x i) (bitK bk y i)):Nat):Int),.int ((bk.find (xorT (bitK bk y i) (bitK bk x i)):Nat):Int)])) _
           (with_reducible apply ev_tuple);walk_at "3";(with_reducible apply ev_methd);assumption;walk_at "n";exact J2 line;rfl;exact judge_off (by decide +kernel);k_is;k_is;k_is;k_is;rfl;walk_at "1";walk_at "n";walk_at "1";walk_at "n";exact evs_nil;rfl;rfl;exact c_unlike hK bo2 bl (J2 line);walk_at "k";rfl;rfl;walk_at "3";(with_reducible apply ev_methd);assumption;walk_at "n";exact J2 line;rfl;exact judge_off (by decide +kernel);k_is;k_is;k_is;k_is;rfl;walk_at "1";walk_at "n";walk_at "1";walk_at "n";exact evs_nil;rfl;rfl;exact c_unlike hK bo2 bl (J2 line);walk_at "k";rfl;rfl;exact evd_nil;rfl;rfl;rfl
          case ct2=>
           refine' ct_filter PyData.int (fun one=>one != 0&&cl.contains one) PyData.int fun r hr=>⟨fun env f=>?_,fun hp env f=>?_⟩
           ·with_reducible apply tst_one
            (with_reducible apply tr_bool;apply tr_and2);walk_at "4";walk_at "n";exact ev_int;walk_at "c";(with_unfolding_all rfl)
            intro _
            walk_at "4";walk_at "n";walk_at "n";exact cmp_in_ints;(with_unfolding_all rfl)
           walk_at "n"
          case hz2=>simp
         walk_at "u"
        walk_at "6";(with_reducible apply ex_if (b:=true))
        ·walk_at "5"
         walk_at "4";walk_at "n";(with_reducible apply ev_list);exact evd_nil;rfl;exact cmp_ints_eq (b:=[]);(with_unfolding_all rfl)
         rw [ht];rfl
        ·intro _
         walk_at "6";(with_reducible apply ex_ret);exact ev_str
        intro h;cases h
       with_reducible apply ex_sub
       ·walk_at "2"
        (with_reducible apply ex_unpack);walk_at "f";walk_at "ns";decide;walk_at "da";(with_reducible apply ev_tuple);walk_at "3";(with_reducible apply ev_methd);assumption;walk_at "n";exact J2 line;rfl;exact judge_off (by decide +kernel);k_is;k_is;k_is;k_is;rfl;walk_at "1";walk_at "n";walk_at "1";walk_at "n";exact evs_nil;rfl;rfl;exact c_keyint hK bo2 bl (J2 line) (fun q=>hb (.inl q));walk_at "k";rfl;rfl;walk_at "3";(with_reducible apply ev_methd);assumption;walk_at "n";exact J2 line;rfl;exact judge_off (by decide +kernel);k_is;k_is;k_is;k_is;rfl;walk_at "1";walk_at "n";walk_at "1";walk_at "n";exact evs_nil;rfl;rfl;exact c_keyint hK bo2 bl (J2 line) (fun q=>hb (.inr q));walk_at "k";rfl;rfl;exact evd_nil;rfl;rfl;rfl;rfl;walk_at "w";walk_at "ua";rfl;walk_at "2"
        ·with_reducible apply ex_if (b:=false)
         ·walk_at "5"
          ·with_reducible apply tr_bool
           (with_reducible apply tr_or2;apply tr_not;apply tr_val;apply ev_call);walk_at "g";walk_at "1";walk_at "n";exact evs_nil;rfl;exact c_isint hK;walk_at "k";exact hK _ _ (by k_is);rfl;rfl;rfl
           intro _
           (with_reducible apply tr_not;apply tr_val;apply ev_call);walk_at "g";walk_at "1";walk_at "n";exact evs_nil;rfl;exact c_isint hK;walk_at "k";exact hK _ _ (by k_is);rfl;rfl;rfl
          rfl
         intro h;cases h
         intro _
         exact ex_nil
        walk_at "2"
        ·with_reducible apply ex_nb (xs:=(there bk cl (bitK bk x i) (bitK bk y i)).map .int)
         ·refine' nb_comp (ρc:=[("some",.d (.tuple (cl.map .int)))]) (by walk_at "f") ((f'.toFn.at _).trans rfl) ?cf1 ?it1 (iter_tuple (xs:=([((bk.find (xorT (bitK bk x i) (bitK bk y i)):Nat):Int),((bk.find (xorT (bitK bk y i) (bitK bk x i)):Nat):Int)]:List Int).map .int)) ?ct1 ?hz1 (swaps_yes (by walk_at "f") rfl rfl) (fun _u=>rfl)
          case cf1=>
           refine ⟨fun p hp hq=>?_,by decide,by decide,rfl,rfl,fun p hp=>?_⟩
           exact f'.cells _ (by revert p;decide)
           rw [List.mem_singleton.mp hp];exact ⟨by walk_at "m",rfl,rfl,by dsimp only;decide⟩
          case it1=>
           show Ev _ _ _ _ _ _ (.d (.tuple [.int ((bk.find (xorT (bitK bk x i) (bitK bk y i)):Nat):Int),.int ((bk.find (xorT (bitK bk y i) (bitK bk x i)):Nat):Int)])) _
           (with_reducible apply ev_tuple);walk_at "3";(with_reducible apply ev_methd);assumption;walk_at "n";exact J2 line;rfl;exact judge_off (by decide +kernel);k_is;k_is;k_is;k_is;rfl;walk_at "1";walk_at "n";walk_at "1";walk_at "n";exact evs_nil;rfl;rfl;exact c_unlike hK bo2 bl (J2 line);walk_at "k";rfl;rfl;walk_at "3";(with_reducible apply ev_methd);assumption;walk_at "n";exact J2 line;rfl;exact judge_off (by decide +kernel);k_is;k_is;k_is;k_is;rfl;walk_at "1";walk_at "n";walk_at "1";walk_at "n";exact evs_nil;rfl;rfl;exact c_unlike hK bo2 bl (J2 line);walk_at "k";rfl;rfl;exact evd_nil;rfl;rfl;rfl
          case ct1=>
           refine' ct_filter PyData.int (fun one=>one != 0&&cl.contains one) PyData.int fun r hr=>⟨fun env f=>?_,fun hp env f=>?_⟩
           ·with_reducible apply tst_one
            (with_reducible apply tr_bool;apply tr_and2);walk_at "4";walk_at "n";exact ev_int;walk_at "c";(with_unfolding_all rfl)
            intro _
            walk_at "4";walk_at "n";walk_at "n";exact cmp_in_ints;(with_unfolding_all rfl)
           walk_at "n"
          case hz1=>simp
         walk_at "u"
        walk_at "2"
        ·with_reducible apply ex_if (b:=false)
         ·walk_at "5"
          walk_at "4";walk_at "n";(with_reducible apply ev_list);exact evd_nil;rfl;exact cmp_ints_eq (b:=[]);(with_unfolding_all rfl)
          rw [ht];rfl
         intro h;cases h
         intro _
         exact ex_nil
        walk_at "2"
        ·with_reducible apply ex_expr
         ·with_reducible apply ev_methb
          walk_at "n";exact meth_list rL (hL line) PySem.F.slot_list_append rfl
          ·walk_at "1"
           ·with_reducible apply ev_sub
            walk_at "n";exact ev_int
            rw [ht];exact sub_list (x:=.int e) (by simp;walk_at "o") (by decide) (by decide) rfl
           exact evs_nil;rfl
          exact hact e line (by walk_at "o");rfl;rfl;rfl
         exact Fn.quiet (by walk_at "f");rfl
        exact ex_nil
       exact fa_cons (by walk_at "m") (by repeat' (first | exact sub_nil | refine sub_keep ?_ | refine sub_skip ?_))
      exact fun _u=>rfl
     rw [hrun];exact if_pos hgo
    by_cases hq:isort cl=isort run.2
    ·rw [if_pos hq]
     walk_at "6";(with_reducible apply ex_ret;apply ev_ite (b:=true))
     ·walk_at "5"
      (with_reducible apply tr_val;apply ev_call);walk_at "g";walk_at "1";walk_at "n";walk_at "1";walk_at "n";exact evs_nil;rfl;rfl;exact c_same hK rL (hL _) hcl (by rw [List.length_singleton] at rl;walk_at "o");walk_at "k";exact hK _ _ (by k_is);rfl;rfl;rfl
      rw [beq_iff_eq];exact hq
     ·intro _
      exact ev_str
     intro h;cases h
    rw [if_neg hq]
    walk_at "6";(with_reducible apply ex_ret;apply ev_ite (b:=false))
    ·walk_at "5"
     (with_reducible apply tr_val;apply ev_call);walk_at "g";walk_at "1";walk_at "n";walk_at "1";walk_at "n";exact evs_nil;rfl;rfl;exact c_same hK rL (hL _) hcl (by rw [List.length_singleton] at rl;walk_at "o");walk_at "k";exact hK _ _ (by k_is);rfl;rfl;rfl
     rw [beq_eq_false_iff_ne];exact hq
    intro h;cases h
    intro _
    exact ev_str
   rw [if_neg hgo]
   walk_at "6";(with_reducible apply ex_is)
   ·with_reducible apply ex_for
    walk_at "f";walk_at "d";(with_reducible apply ev_callt);((with_reducible apply ev_blt);assumption;walk_at "f";rfl;k_is;exact bb_range;decide;decide);walk_at "1";(with_reducible apply ev_methd);assumption;(with_reducible apply ev_attr);assumption;walk_at "n";exact (J2 _);exact judge_str;exact judge_bank;rfl;k_is;k_is;k_is;(with_unfolding_all rfl);exact bo2.obj;rfl;exact bkv_off (by decide +kernel);k_is;k_is;k_is;k_is;rfl;walk_at "1";walk_at "n";exact evs_nil;rfl;exact c_width hK bo2 bl hx hs hw sl;walk_at "k";rfl;rfl;exact evs_nil;rfl;exact typ_range;rfl;rfl;exact iter_range (by walk_at "o")
    ·refine' turns_line (bk:=bk) (cl:=cl) (x:=x) (y:=y) (ρ:=("line",.v (.ref L))::[("x",.d (.int (x:Int))),("y",.d (.int (y:Int))),("self",.v (.ref J)),("some",.d (.tuple (cl.map .int))),("t",.d (.int (t:Int)))]) (fun line=>wB D (put σ L (.list (line.map .int))) bk) rfl 10 (List.range w) [(t:Int)] (by simp;walk_at "o") (fun i hi line hlen=>⟨fun hb=>?_,fun hb ht=>?_,fun e rest hb ht=>?_⟩)
     ·by_cases ha:bitK bk x i=0
      ·by_cases hy0:bitK bk y i=0
       ·walk_at "2"
        (with_reducible apply ex_unpack);walk_at "f";walk_at "ns";decide;walk_at "da";(with_reducible apply ev_tuple);walk_at "3";(with_reducible apply ev_methd);assumption;walk_at "n";exact J2 line;rfl;exact judge_off (by decide +kernel);k_is;k_is;k_is;k_is;rfl;walk_at "1";walk_at "n";walk_at "1";walk_at "n";exact evs_nil;rfl;rfl;exact c_keytup hK bo2 bl (J2 line) ha;walk_at "k";rfl;rfl;walk_at "3";(with_reducible apply ev_methd);assumption;walk_at "n";exact J2 line;rfl;exact judge_off (by decide +kernel);k_is;k_is;k_is;k_is;rfl;walk_at "1";walk_at "n";walk_at "1";walk_at "n";exact evs_nil;rfl;rfl;exact c_keytup hK bo2 bl (J2 line) hy0;walk_at "k";rfl;rfl;exact evd_nil;rfl;rfl;rfl;rfl;walk_at "w";walk_at "ua";rfl;walk_at "6";(with_reducible apply ex_if (b:=true))
        ·walk_at "5"
         ·with_reducible apply tr_bool
          (with_reducible apply tr_or2 (c:=false);apply tr_not;apply tr_val;apply ev_call);walk_at "g";walk_at "1";walk_at "n";exact evs_nil;rfl;exact c_istup hK;walk_at "k";exact hK _ _ (by k_is);rfl;rfl;rfl
          intro h;exact absurd h (by decide)
         walk_at "t"
        ·intro _
         walk_at "6";(with_reducible apply ex_ret);exact ev_str
        intro h;cases h
       walk_at "2";(with_reducible apply ex_unpack);walk_at "f";walk_at "ns";decide;walk_at "da";(with_reducible apply ev_tuple);walk_at "3";(with_reducible apply ev_methd);assumption;walk_at "n";exact J2 line;rfl;exact judge_off (by decide +kernel);k_is;k_is;k_is;k_is;rfl;walk_at "1";walk_at "n";walk_at "1";walk_at "n";exact evs_nil;rfl;rfl;exact c_keytup hK bo2 bl (J2 line) ha;walk_at "k";rfl;rfl;walk_at "3";(with_reducible apply ev_methd);assumption;walk_at "n";exact J2 line;rfl;exact judge_off (by decide +kernel);k_is;k_is;k_is;k_is;rfl;walk_at "1";walk_at "n";walk_at "1";walk_at "n";exact evs_nil;rfl;rfl;exact c_keyint hK bo2 bl (J2 line) hy0;walk_at "k";rfl;rfl;exact evd_nil;rfl;rfl;rfl;rfl;walk_at "w";walk_at "ua";rfl;walk_at "6";(with_reducible apply ex_if (b:=true))
       ·walk_at "5"
        ·with_reducible apply tr_bool
         (with_reducible apply tr_or2 (c:=false);apply tr_not;apply tr_val;apply ev_call);walk_at "g";walk_at "1";walk_at "n";exact evs_nil;rfl;exact c_istup hK;walk_at "k";exact hK _ _ (by k_is);rfl;rfl;rfl
         intro h;exact absurd h (by decide)
        walk_at "t"
       ·intro _
        walk_at "6";(with_reducible apply ex_ret);exact ev_str
       intro h;cases h
      have hy0:=hb.resolve_left ha
      walk_at "2";(with_reducible apply ex_unpack);walk_at "f";walk_at "ns";decide;walk_at "da";(with_reducible apply ev_tuple);walk_at "3";(with_reducible apply ev_methd);assumption;walk_at "n";exact J2 line;rfl;exact judge_off (by decide +kernel);k_is;k_is;k_is;k_is;rfl;walk_at "1";walk_at "n";walk_at "1";walk_at "n";exact evs_nil;rfl;rfl;exact c_keyint hK bo2 bl (J2 line) ha;walk_at "k";rfl;rfl;walk_at "3";(with_reducible apply ev_methd);assumption;walk_at "n";exact J2 line;rfl;exact judge_off (by decide +kernel);k_is;k_is;k_is;k_is;rfl;walk_at "1";walk_at "n";walk_at "1";walk_at "n";exact evs_nil;rfl;rfl;exact c_keytup hK bo2 bl (J2 line) hy0;walk_at "k";rfl;rfl;exact evd_nil;rfl;rfl;rfl;rfl;walk_at "w";walk_at "ua";rfl;walk_at "6";(with_reducible apply ex_if (b:=true))
      ·walk_at "5"
       ·with_reducible apply tr_bool
        (with_reducible apply tr_or2;apply tr_not;apply tr_val;apply ev_call);walk_at "g";walk_at "1";walk_at "n";exact evs_nil;rfl;exact c_isint hK;walk_at "k";exact hK _ _ (by k_is);rfl;rfl;rfl
        intro _
        (with_reducible apply tr_not;apply tr_val;apply ev_call);walk_at "g";walk_at "1";walk_at "n";exact evs_nil;rfl;exact c_istup hK;walk_at "k";exact hK _ _ (by k_is);rfl;rfl;rfl
       walk_at "t"
      ·intro _
       walk_at "6";(with_reducible apply ex_ret);exact ev_str
      intro h;cases h
     ·walk_at "2"
      (with_reducible apply ex_unpack);walk_at "f";walk_at "ns";decide;walk_at "da";(with_reducible apply ev_tuple);walk_at "3";(with_reducible apply ev_methd);assumption;walk_at "n";exact J2 line;rfl;exact judge_off (by decide +kernel);k_is;k_is;k_is;k_is;rfl;walk_at "1";walk_at "n";walk_at "1";walk_at "n";exact evs_nil;rfl;rfl;exact c_keyint hK bo2 bl (J2 line) (fun q=>hb (.inl q));walk_at "k";rfl;rfl;walk_at "3";(with_reducible apply ev_methd);assumption;walk_at "n";exact J2 line;rfl;exact judge_off (by decide +kernel);k_is;k_is;k_is;k_is;rfl;walk_at "1";walk_at "n";walk_at "1";walk_at "n";exact evs_nil;rfl;rfl;exact c_keyint hK bo2 bl (J2 line) (fun q=>hb (.inr q));walk_at "k";rfl;rfl;exact evd_nil;rfl;rfl;rfl;rfl;walk_at "w";walk_at "ua";rfl;walk_at "2"
      ·with_reducible apply ex_if (b:=false)
       ·walk_at "5"
        ·with_reducible apply tr_bool
         (with_reducible apply tr_or2;apply tr_not;apply tr_val;apply ev_call);walk_at "g";walk_at "1";walk_at "n";exact evs_nil;rfl;exact c_isint hK;walk_at "k";exact hK _ _ (by k_is);rfl;rfl;rfl
         intro _
         (with_reducible apply tr_not;apply tr_val;apply ev_call);walk_at "g";walk_at "1";walk_at "n";exact evs_nil;rfl;exact c_isint hK;walk_at "k";exact hK _ _ (by k_is);rfl;rfl;rfl
        rfl
       intro h;cases h
       intro _
       exact ex_nil
      walk_at "2"
      ·with_reducible apply ex_nb (xs:=(there bk cl (bitK bk x i) (bitK bk y i)).map .int)
       ·refine' nb_comp (ρc:=[("some",.d (.tuple (cl.map .int)))]) (by walk_at "f") ((f'.toFn.at _).trans rfl) ?cf2 ?it2 (iter_tuple (xs:=([((bk.find (xorT (bitK bk x i) (bitK bk y i)):Nat):Int),((bk.find (xorT (bitK bk y i) (bitK bk x i)):Nat):Int)]:List Int).map .int)) ?ct2 ?hz2 (swaps_yes (by walk_at "f") rfl rfl) (fun _u=>rfl)
        case cf2=>
         refine ⟨fun p hp hq=>?_,by decide,by decide,rfl,rfl,fun p hp=>?_⟩
         exact f'.cells _ (by revert p;decide)
         rw [List.mem_singleton.mp hp];exact ⟨by walk_at "m",rfl,rfl,by dsimp only;decide⟩
        case it2=>
         show Ev _ _ _ _ _ _ (.d (.tuple [.int ((bk.find (xorT (bitK bk x i) (bitK bk y i)):Nat):Int),.int ((bk.find (xorT (bitK bk y i) (bitK bk x i)):Nat):Int)])) _
         (with_reducible apply ev_tuple);walk_at "3";(with_reducible apply ev_methd);assumption;walk_at "n";exact J2 line;rfl;exact judge_off (by decide +kernel);k_is;k_is;k_is;k_is;rfl;walk_at "1";walk_at "n";walk_at "1";walk_at "n";exact evs_nil;rfl;rfl;exact c_unlike hK bo2 bl (J2 line);walk_at "k";rfl;rfl;walk_at "3";(with_reducible apply ev_methd);assumption;walk_at "n";exact J2 line;rfl;exact judge_off (by decide +kernel);k_is;k_is;k_is;k_is;rfl;walk_at "1";walk_at "n";walk_at "1";walk_at "n";exact evs_nil;rfl;rfl;exact c_unlike hK bo2 bl (J2 line);walk_at "k";rfl;rfl;exact evd_nil;rfl;rfl;rfl
        case ct2=>
         refine' ct_filter PyData.int (fun one=>one != 0&&cl.contains one) PyData.int fun r hr=>⟨fun env f=>?_,fun hp env f=>?_⟩
         ·with_reducible apply tst_one
          (with_reducible apply tr_bool;apply tr_and2);walk_at "4";walk_at "n";exact ev_int;walk_at "c";(with_unfolding_all rfl)
          intro _
          walk_at "4";walk_at "n";walk_at "n";exact cmp_in_ints;(with_unfolding_all rfl)
         walk_at "n"
        case hz2=>simp
       walk_at "u"
      walk_at "6";(with_reducible apply ex_if (b:=true))
      ·walk_at "5"
       walk_at "4";walk_at "n";(with_reducible apply ev_list);exact evd_nil;rfl;exact cmp_ints_eq (b:=[]);(with_unfolding_all rfl)
       rw [ht];rfl
      ·intro _
       walk_at "6";(with_reducible apply ex_ret);exact ev_str
      intro h;cases h
     with_reducible apply ex_sub
     ·walk_at "2"
      (with_reducible apply ex_unpack);walk_at "f";walk_at "ns";decide;walk_at "da";(with_reducible apply ev_tuple);walk_at "3";(with_reducible apply ev_methd);assumption;walk_at "n";exact J2 line;rfl;exact judge_off (by decide +kernel);k_is;k_is;k_is;k_is;rfl;walk_at "1";walk_at "n";walk_at "1";walk_at "n";exact evs_nil;rfl;rfl;exact c_keyint hK bo2 bl (J2 line) (fun q=>hb (.inl q));walk_at "k";rfl;rfl;walk_at "3";(with_reducible apply ev_methd);assumption;walk_at "n";exact J2 line;rfl;exact judge_off (by decide +kernel);k_is;k_is;k_is;k_is;rfl;walk_at "1";walk_at "n";walk_at "1";walk_at "n";exact evs_nil;rfl;rfl;exact c_keyint hK bo2 bl (J2 line) (fun q=>hb (.inr q));walk_at "k";rfl;rfl;exact evd_nil;rfl;rfl;rfl;rfl;walk_at "w";walk_at "ua";rfl;walk_at "2"
      ·with_reducible apply ex_if (b:=false)
       ·walk_at "5"
        ·with_reducible apply tr_bool
         (with_reducible apply tr_or2;apply tr_not;apply tr_val;apply ev_call);walk_at "g";walk_at "1";walk_at "n";exact evs_nil;rfl;exact c_isint hK;walk_at "k";exact hK _ _ (by k_is);rfl;rfl;rfl
         intro _
         (with_reducible apply tr_not;apply tr_val;apply ev_call);walk_at "g";walk_at "1";walk_at "n";exact evs_nil;rfl;exact c_isint hK;walk_at "k";exact hK _ _ (by k_is);rfl;rfl;rfl
        rfl
       intro h;cases h
       intro _
       exact ex_nil
      walk_at "2"
      ·with_reducible apply ex_nb (xs:=(there bk cl (bitK bk x i) (bitK bk y i)).map .int)
       ·refine' nb_comp (ρc:=[("some",.d (.tuple (cl.map .int)))]) (by walk_at "f") ((f'.toFn.at _).trans rfl) ?cf1 ?it1 (iter_tuple (xs:=([((bk.find (xorT (bitK bk x i) (bitK bk y i)):Nat):Int),((bk.find (xorT (bitK bk y i) (bitK bk x i)):Nat):Int)]:List Int).map .int)) ?ct1 ?hz1 (swaps_yes (by walk_at "f") rfl rfl) (fun _u=>rfl)
        case cf1=>
         refine ⟨fun p hp hq=>?_,by decide,by decide,rfl,rfl,fun p hp=>?_⟩
         exact f'.cells _ (by revert p;decide)
         rw [List.mem_singleton.mp hp];exact ⟨by walk_at "m",rfl,rfl,by dsimp only;decide⟩
        case it1=>
         show Ev _ _ _ _ _ _ (.d (.tuple [.int ((bk.find (xorT (bitK bk x i) (bitK bk y i)):Nat):Int),.int ((bk.find (xorT (bitK bk y i) (bitK bk x i)):Nat):Int)])) _
         (with_reducible apply ev_tuple);walk_at "3";(with_reducible apply ev_methd);assumption;walk_at "n";exact J2 line;rfl;exact judge_off (by decide +kernel);k_is;k_is;k_is;k_is;rfl;walk_at "1";walk_at "n";walk_at "1";walk_at "n";exact evs_nil;rfl;rfl;exact c_unlike hK bo2 bl (J2 line);walk_at "k";rfl;rfl;walk_at "3";(with_reducible apply ev_methd);assumption;walk_at "n";exact J2 line;rfl;exact judge_off (by decide +kernel);k_is;k_is;k_is;k_is;rfl;walk_at "1";walk_at "n";walk_at "1";walk_at "n";exact evs_nil;rfl;rfl;exact c_unlike hK bo2 bl (J2 line);walk_at "k";rfl;rfl;exact evd_nil;rfl;rfl;rfl
        case ct1=>
         refine' ct_filter PyData.int (fun one=>one != 0&&cl.contains one) PyData.int fun r hr=>⟨fun env f=>?_,fun hp env f=>?_⟩
         ·with_reducible apply tst_one
          (with_reducible apply tr_bool;apply tr_and2);walk_at "4";walk_at "n";exact ev_int;walk_at "c";(with_unfolding_all rfl)
          intro _
          walk_at "4";walk_at "n";walk_at "n";exact cmp_in_ints;(with_unfolding_all rfl)
         walk_at "n"
        case hz1=>simp
       walk_at "u"
      walk_at "2"
      ·with_reducible apply ex_if (b:=false)
       ·walk_at "5"
        walk_at "4";walk_at "n";(with_reducible apply ev_list);exact evd_nil;rfl;exact cmp_ints_eq (b:=[]);(with_unfolding_all rfl)
        rw [ht];rfl
       intro h;cases h
       intro _
       exact ex_nil
      walk_at "2"
      ·with_reducible apply ex_expr
       ·with_reducible apply ev_methb
        walk_at "n";exact meth_list rL (hL line) PySem.F.slot_list_append rfl
        ·walk_at "1"
         ·with_reducible apply ev_sub
          walk_at "n";exact ev_int
          rw [ht];exact sub_list (x:=.int e) (by simp;walk_at "o") (by decide) (by decide) rfl
         exact evs_nil;rfl
        exact hact e line (by walk_at "o");rfl;rfl;rfl
       exact Fn.quiet (by walk_at "f");rfl
      exact ex_nil
     exact fa_cons (by walk_at "m") (by repeat' (first | exact sub_nil | refine sub_keep ?_ | refine sub_skip ?_))
    exact fun _u=>rfl
   rw [hrun];exact if_neg hgo
end
section
variable {B:Base} {R:Addr→Prop} {lo:∀ a,R a→B.h₁.get? a=none} {σ:Sto} {D:BankD} {bk:Bk}
@[reducible] noncomputable def wU (D:BankD) (σ:Sto) (F:Addr) (cells:List Int) (b:Int) (k:Nat) (bk:Bk):Sto:=wB D (fw σ F cells b k) bk
theorem c_drawU (hK:(KZ B.w.params).In B.h₁) {F:Addr} {cells:List Int} {k:Nat} {b many:Int} (fd:Feed R F cells b) (hF:F∉D.all) (hk:k<1000) (hm:0<many) :
  FS (B.sys R lo) 1 863 [.v (.ref F),.d (.int many)] (wU D σ F cells b k bk) (.d (.int (drawOf cells k b many))) (wU D σ F cells b (k+1) bk):=by
 have:=c_draw (σ:=wU D σ F cells b k bk) (lo:=lo) hK fd.r ((raw_off hF).trans put_here) fd.c hk hm fd.lo fd.hi
 rwa [put_raw hF,put_put] at this
theorem judgeU {F J dJ bk' tb:Addr} {cells:List Int} {k:Nat} {b:Int} (I:Judge R σ J dJ bk' tb) (n1:J≠F) (n2:dJ≠F) (o1:J∉D.all) (o2:dJ∉D.all):Judge R (wU D σ F cells b k bk) J dJ bk' tb:=
 ⟨I.rx,(raw_off o1).trans ((put_there n1).trans I.ex),I.rd,(raw_off o2).trans ((put_there n2).trans I.ed)⟩
structure BI (w N:Nat) (bk:Bk):Prop where
 x:bk.tms[3]?=some ⟨"app",[],3,0⟩
 y:bk.tms[4]?=some ⟨"app",[],3,1⟩
 t:bk.tms[5]?=some ⟨"=",[3,4],0,0⟩
 one:bk.tms[1]?=some ⟨"true",[],0,0⟩
 sw:bk.sws=[0,0,0,(w:Int)]
 len:bk.tms.length≤N
 fl:bk.fns.length≤N
 rl:bk.frs.length≤N
theorem BI.make {w N:Nat} {bk:Bk} (h:BI w N bk) (t:Tm):BI w (N+1) (bk.make t).2:=by
 refine ⟨Bk.make_keep h.x,Bk.make_keep h.y,Bk.make_keep h.t,Bk.make_keep h.one,Bk.make_sws.trans h.sw,Nat.le_trans Bk.make_len (Nat.succ_le_succ h.len),?_,?_⟩
 ·have:=h.fl;unfold Bk.make;split <;> (dsimp only;walk_at "o")
 have:=h.rl;unfold Bk.make;split <;> (dsimp only;walk_at "o")
theorem BI.fresh {w N:Nat} {bk:Bk} (h:BI w N bk) (nm:Str) (s:Int):BI w (N+2) (freshC bk nm s).2:=by
 have:BI w (N+1) ({ bk with fns:=bk.fns++[nm],frs:=bk.frs++[s] }:Bk):=⟨h.x,h.y,h.t,h.one,h.sw,Nat.le_succ_of_le h.len,by show (bk.fns++[nm]).length≤_;rw [List.length_append];exact Nat.succ_le_succ h.fl,by show (bk.frs++[s]).length≤_;rw [List.length_append];exact Nat.succ_le_succ h.rl⟩
 exact this.make _
theorem BI.le {w N M:Nat} {bk:Bk} (h:BI w N bk) (k:N≤M):BI w M bk:=⟨h.x,h.y,h.t,h.one,h.sw,Nat.le_trans h.len k,Nat.le_trans h.fl k,Nat.le_trans h.rl k⟩
theorem BI.pos {w N:Nat} {bk:Bk} (h:BI w N bk):1≤bk.tms.length:=by have:=(List.getElem?_eq_some_iff.mp h.one).1;walk_at "o"
theorem BI.w3 {w N:Nat} {bk:Bk} (h:BI w N bk):bk.sws[3]?=some (w:Int):=by rw [h.sw];rfl
theorem BI.w0 {w N:Nat} {bk:Bk} (h:BI w N bk):bk.sws[0]?=some 0:=by rw [h.sw];rfl
theorem BI.wl {w N:Nat} {bk:Bk} (h:BI w N bk):bk.sws.length≤10000:=by rw [h.sw];show 4≤10000;decide
theorem BI.row {w N:Nat} {bk:Bk} (h:BI w N bk) (q i:Nat):BI w (N+4) (rowK q bk i).2:=by
 unfold rowK
 split
 exact (h.make _).le (by walk_at "o")
 dsimp only
 split
 exact (((h.make _).make _).make _).le (by walk_at "o")
 split
 exact ((((h.make _).make _).make _).make _);exact (((h.make _).make _).make _).le (by walk_at "o")
noncomputable def kindOf (dr:Nat→Int→Int) (k:Nat):Nat:=if dr k 8=7 then 0 else if dr (k+1) 4=2 then 2 else if dr (k+1) 4=3 then 3 else 1
noncomputable def usedOf (dr:Nat→Int→Int) (k:Nat):Nat:=if dr k 8=7 then 1 else 2
theorem kindOf_lt (dr:Nat→Int→Int) (k:Nat):kindOf dr k<4:=by unfold kindOf;(repeat' split) <;> decide
theorem c_bitU (hK:(KZ B.w.params).In B.h₁) (bo:BOk R D) {w N:Nat} (h:BI w N bk) (hN:N≤10000) {t i:Nat} (ht:t=3∨t=4) (hi:i<w) :
  FS (B.sys R lo) 3 611 [.v (.ref D.b),.d (.int (i:Int)),.d (.int (t:Int))] (wB D σ bk) (.d (.int (((bk.make (bitT t i)).1:Nat):Int))) (wB D σ (bk.make (bitT t i)).2):=by
 have bl:=Nat.le_trans h.len hN
 rcases ht with rfl | rfl
 exact c_bit (s:=3) (w:=(w:Int)) hK bo bl h.x rfl h.w3 h.wl (by walk_at "o") (by walk_at "o") h.pos;exact c_bit (s:=3) (w:=(w:Int)) hK bo bl h.y rfl h.w3 h.wl (by walk_at "o") (by walk_at "o") h.pos
theorem c_row (hK:(KZ B.w.params).In B.h₁) (bo:BOk R D) {F:Addr} {cells:List Int} {k:Nat} {b:Int} (fd:Feed R F cells b) (hF:F∉D.all) (hk:k+2<1000) {w N i:Nat} (h:BI w N bk) (hN:N+4≤10000) (hi:i<w) :
  FS (B.sys R lo) 4 899 [.v (.ref F),.v (.ref D.b),.d (.int (i:Int)),.d (.int ((3:Nat):Int)),.d (.int ((4:Nat):Int))] (wU D σ F cells b k bk) (.d (.list ((rowK (kindOf (drw cells b) k) bk i).1.map .int))) (wU D σ F cells b (k+usedOf (drw cells b) k) (rowK (kindOf (drw cells b) k) bk i).2):=by
 refine fs_def (names:=["feed","bank","i","x","y"]) hK ?h_1
 case h_1=>
  intro env f
  change Ex _ _ _ [("feed",_),("bank",_),("i",_),("x",_),("y",_)] _ _ _
  have hbx:∀ σ,FS (B.sys R lo) 3 611 [.v (.ref D.b),.d (.int (i:Int)),.d (.int ((3:Nat):Int))] (wB D σ bk) (.d (.int (((bk.make (bitT 3 i)).1:Nat):Int))) (wB D σ (bk.make (bitT 3 i)).2):=fun σ=>c_bitU hK bo h (by walk_at "o") (.inl rfl) hi
  by_cases h7:drawOf cells k b 8=7
  ·have e1:kindOf (drw cells b) k=0:=if_pos h7
   have e2:usedOf (drw cells b) k=1:=if_pos h7
   rw [e1,e2]
   show Ex _ _ _ _ _ _ (.ret (.d (.list [])) (wU D σ F cells b (k+1) (bk.make (bitT 3 i)).2))
   walk_at "6";(with_reducible apply ex_if (b:=true))
   ·walk_at "5"
    walk_at "4";(with_reducible apply ev_call);walk_at "g";walk_at "1";walk_at "n";walk_at "1";exact ev_int;exact evs_nil;rfl;rfl;exact c_drawU hK fd hF (by walk_at "o") (by decide);walk_at "k";exact hK _ _ (by k_is);rfl;rfl;exact ev_int;walk_at "c";(with_unfolding_all rfl)
    simp [h7]
   ·intro _
    walk_at "2";(with_reducible apply ex_expr;apply ev_methd);assumption;walk_at "n";exact bo.obj;rfl;exact bkv_off (by decide +kernel);k_is;k_is;k_is;k_is;rfl;walk_at "1";walk_at "n";walk_at "1";walk_at "n";exact evs_nil;rfl;rfl;exact hbx _;walk_at "k";rfl;rfl;exact Fn.quiet (by walk_at "f");rfl;walk_at "6";(with_reducible apply ex_ret;apply ev_list);exact evd_nil;rfl
   intro h;cases h
  have e2:usedOf (drw cells b) k=2:=if_neg h7
  rw [e2]
  have hA:=h.make (bitT 3 i)
  have aAt:=Bk.make_at (bk:=bk) (t:=bitT 3 i)
  have hby:∀ σ,FS (B.sys R lo) 3 611 [.v (.ref D.b),.d (.int (i:Int)),.d (.int ((4:Nat):Int))] (wB D σ (bk.make (bitT 3 i)).2) (.d (.int ((((bk.make (bitT 3 i)).2.make (bitT 4 i)).1:Nat):Int))) (wB D σ ((bk.make (bitT 3 i)).2.make (bitT 4 i)).2):=fun σ=>c_bitU hK bo hA (by walk_at "o") (.inr rfl) hi
  unfold rowK
  dsimp only
  have hB:=hA.make (bitT 4 i)
  have bAt:=Bk.make_at (bk:=(bk.make (bitT 3 i)).2) (t:=bitT 4 i)
  have aAt:=Bk.make_keep (t:=bitT 4 i) aAt
  generalize (bk.make (bitT 3 i)).2.make (bitT 4 i)=pb at hby hB bAt aAt ⊢
  generalize bk.make (bitT 3 i)=pa at hbx hby hA aAt ⊢
  have hu:∀ σ,FS (B.sys R lo) 3 354 [.v (.ref D.b),.d (.int (pa.1:Int)),.d (.int (pb.1:Int))] (wB D σ pb.2) (.d (.int (((pb.2.make (xorT pa.1 pb.1)).1:Nat):Int))) (wB D σ (pb.2.make (xorT pa.1 pb.1)).2):=fun σ=>c_xor hK bo (Nat.le_trans hB.len (by walk_at "o")) aAt rfl bAt rfl hB.pos
  have hv:∀ σ,FS (B.sys R lo) 3 354 [.v (.ref D.b),.d (.int (pb.1:Int)),.d (.int (pa.1:Int))] (wB D σ pb.2) (.d (.int (((pb.2.make (xorT pb.1 pa.1)).1:Nat):Int))) (wB D σ (pb.2.make (xorT pb.1 pa.1)).2):=fun σ=>c_xor hK bo (Nat.le_trans hB.len (by walk_at "o")) bAt rfl aAt rfl hB.pos
  have hU:=hB.make (xorT pa.1 pb.1)
  have hv3:∀ σ,FS (B.sys R lo) 3 354 [.v (.ref D.b),.d (.int (pb.1:Int)),.d (.int (pa.1:Int))] (wB D σ (pb.2.make (xorT pa.1 pb.1)).2) (.d (.int ((((pb.2.make (xorT pa.1 pb.1)).2.make (xorT pb.1 pa.1)).1:Nat):Int))) (wB D σ ((pb.2.make (xorT pa.1 pb.1)).2.make (xorT pb.1 pa.1)).2):=fun σ=>c_xor hK bo (Nat.le_trans hU.len (by walk_at "o")) (Bk.make_keep bAt) rfl (Bk.make_keep aAt) rfl hU.pos
  by_cases h2:drawOf cells (k+1) b 4=2
  ·have e1:kindOf (drw cells b) k=2:=(if_neg h7).trans (if_pos h2)
   rw [e1]
   show Ex _ _ _ _ _ _ (.ret (.d (.list [.int ((pb.2.make (xorT pb.1 pa.1)).1:Int)])) (wU D σ F cells b (k+1+1) (pb.2.make (xorT pb.1 pa.1)).2))
   walk_at "2"
   ·with_reducible apply ex_if (b:=false)
    ·walk_at "5"
     walk_at "4";(with_reducible apply ev_call);walk_at "g";walk_at "1";walk_at "n";walk_at "1";exact ev_int;exact evs_nil;rfl;rfl;exact c_drawU hK fd hF (by walk_at "o") (by decide);walk_at "k";exact hK _ _ (by k_is);rfl;rfl;exact ev_int;walk_at "c";(with_unfolding_all rfl)
     simp [h7]
    intro h;cases h
    intro _
    exact ex_nil
   walk_at "2";(with_reducible apply ex_unpack);walk_at "f";walk_at "ns";decide;walk_at "da";(with_reducible apply ev_tuple);walk_at "3";(with_reducible apply ev_methd);assumption;walk_at "n";exact bo.obj;rfl;exact bkv_off (by decide +kernel);k_is;k_is;k_is;k_is;rfl;walk_at "1";walk_at "n";walk_at "1";walk_at "n";exact evs_nil;rfl;rfl;exact hbx _;walk_at "k";rfl;rfl;walk_at "3";(with_reducible apply ev_methd);assumption;walk_at "n";exact bo.obj;rfl;exact bkv_off (by decide +kernel);k_is;k_is;k_is;k_is;rfl;walk_at "1";walk_at "n";walk_at "1";walk_at "n";exact evs_nil;rfl;rfl;exact hby _;walk_at "k";rfl;rfl;walk_at "3";(with_reducible apply ev_call);walk_at "g";walk_at "1";walk_at "n";walk_at "1";exact ev_int;exact evs_nil;rfl;rfl;exact c_drawU hK fd hF (by walk_at "o") (by decide);walk_at "k";exact hK _ _ (by k_is);rfl;rfl;exact evd_nil;rfl;rfl;rfl;rfl;rfl;walk_at "w";walk_at "ua";rfl;walk_at "6";(with_reducible apply ex_if (b:=true))
   ·walk_at "5"
    walk_at "4";walk_at "n";exact ev_int;walk_at "c";(with_unfolding_all rfl)
    simp [h2]
   ·intro _
    walk_at "6";(with_reducible apply ex_ret;apply ev_list);walk_at "3";(with_reducible apply ev_methd);assumption;walk_at "n";exact bo.obj;rfl;exact bkv_off (by decide +kernel);k_is;k_is;k_is;k_is;rfl;walk_at "1";walk_at "n";walk_at "1";walk_at "n";exact evs_nil;rfl;rfl;exact hv _;walk_at "k";rfl;rfl;exact evd_nil;rfl;rfl
   intro h;cases h
  by_cases h3:drawOf cells (k+1) b 4=3
  ·have e1:kindOf (drw cells b) k=3:=(if_neg h7).trans ((if_neg h2).trans (if_pos h3))
   rw [e1]
   show Ex _ _ _ _ _ _ (.ret (.d (.list [.int ((pb.2.make (xorT pa.1 pb.1)).1:Int),.int (((pb.2.make (xorT pa.1 pb.1)).2.make (xorT pb.1 pa.1)).1:Int)])) (wU D σ F cells b (k+1+1) ((pb.2.make (xorT pa.1 pb.1)).2.make (xorT pb.1 pa.1)).2))
   walk_at "2"
   ·with_reducible apply ex_if (b:=false)
    ·walk_at "5"
     walk_at "4";(with_reducible apply ev_call);walk_at "g";walk_at "1";walk_at "n";walk_at "1";exact ev_int;exact evs_nil;rfl;rfl;exact c_drawU hK fd hF (by walk_at "o") (by decide);walk_at "k";exact hK _ _ (by k_is);rfl;rfl;exact ev_int;walk_at "c";(with_unfolding_all rfl)
     simp [h7]
    intro h;cases h
    intro _
    exact ex_nil
   walk_at "2";(with_reducible apply ex_unpack);walk_at "f";walk_at "ns";decide;walk_at "da";(with_reducible apply ev_tuple);walk_at "3";(with_reducible apply ev_methd);assumption;walk_at "n";exact bo.obj;rfl;exact bkv_off (by decide +kernel);k_is;k_is;k_is;k_is;rfl;walk_at "1";walk_at "n";walk_at "1";walk_at "n";exact evs_nil;rfl;rfl;exact hbx _;walk_at "k";rfl;rfl;walk_at "3";(with_reducible apply ev_methd);assumption;walk_at "n";exact bo.obj;rfl;exact bkv_off (by decide +kernel);k_is;k_is;k_is;k_is;rfl;walk_at "1";walk_at "n";walk_at "1";walk_at "n";exact evs_nil;rfl;rfl;exact hby _;walk_at "k";rfl;rfl;walk_at "3";(with_reducible apply ev_call);walk_at "g";walk_at "1";walk_at "n";walk_at "1";exact ev_int;exact evs_nil;rfl;rfl;exact c_drawU hK fd hF (by walk_at "o") (by decide);walk_at "k";exact hK _ _ (by k_is);rfl;rfl;exact evd_nil;rfl;rfl;rfl;rfl;rfl;walk_at "w";walk_at "ua";rfl;walk_at "2"
   ·with_reducible apply ex_if (b:=false)
    ·walk_at "5"
     walk_at "4";walk_at "n";exact ev_int;walk_at "c";(with_unfolding_all rfl)
     simp [h2]
    intro h;cases h
    intro _
    exact ex_nil
   walk_at "6";(with_reducible apply ex_ret;apply ev_ite (b:=true))
   ·walk_at "5"
    walk_at "4";walk_at "n";exact ev_int;walk_at "c";(with_unfolding_all rfl)
    simp [h3]
   ·intro _
    (with_reducible apply ev_list);walk_at "3";(with_reducible apply ev_methd);assumption;walk_at "n";exact bo.obj;rfl;exact bkv_off (by decide +kernel);k_is;k_is;k_is;k_is;rfl;walk_at "1";walk_at "n";walk_at "1";walk_at "n";exact evs_nil;rfl;rfl;exact hu _;walk_at "k";rfl;rfl;walk_at "3";(with_reducible apply ev_methd);assumption;walk_at "n";exact bo.obj;rfl;exact bkv_off (by decide +kernel);k_is;k_is;k_is;k_is;rfl;walk_at "1";walk_at "n";walk_at "1";walk_at "n";exact evs_nil;rfl;rfl;exact hv3 _;walk_at "k";rfl;rfl;exact evd_nil;rfl;rfl;rfl
   intro h;cases h
  have e1:kindOf (drw cells b) k=1:=(if_neg h7).trans ((if_neg h2).trans (if_neg h3))
  rw [e1]
  show Ex _ _ _ _ _ _ (.ret (.d (.list [.int ((pb.2.make (xorT pa.1 pb.1)).1:Int)])) (wU D σ F cells b (k+1+1) (pb.2.make (xorT pa.1 pb.1)).2))
  walk_at "2"
  ·with_reducible apply ex_if (b:=false)
   ·walk_at "5"
    walk_at "4";(with_reducible apply ev_call);walk_at "g";walk_at "1";walk_at "n";walk_at "1";exact ev_int;exact evs_nil;rfl;rfl;exact c_drawU hK fd hF (by walk_at "o") (by decide);walk_at "k";exact hK _ _ (by k_is);rfl;rfl;exact ev_int;walk_at "c";(with_unfolding_all rfl)
    simp [h7]
   intro h;cases h
   intro _
   exact ex_nil
  walk_at "2";(with_reducible apply ex_unpack);walk_at "f";walk_at "ns";decide;walk_at "da";(with_reducible apply ev_tuple);walk_at "3";(with_reducible apply ev_methd);assumption;walk_at "n";exact bo.obj;rfl;exact bkv_off (by decide +kernel);k_is;k_is;k_is;k_is;rfl;walk_at "1";walk_at "n";walk_at "1";walk_at "n";exact evs_nil;rfl;rfl;exact hbx _;walk_at "k";rfl;rfl;walk_at "3";(with_reducible apply ev_methd);assumption;walk_at "n";exact bo.obj;rfl;exact bkv_off (by decide +kernel);k_is;k_is;k_is;k_is;rfl;walk_at "1";walk_at "n";walk_at "1";walk_at "n";exact evs_nil;rfl;rfl;exact hby _;walk_at "k";rfl;rfl;walk_at "3";(with_reducible apply ev_call);walk_at "g";walk_at "1";walk_at "n";walk_at "1";exact ev_int;exact evs_nil;rfl;rfl;exact c_drawU hK fd hF (by walk_at "o") (by decide);walk_at "k";exact hK _ _ (by k_is);rfl;rfl;exact evd_nil;rfl;rfl;rfl;rfl;rfl;walk_at "w";walk_at "ua";rfl;walk_at "2"
  ·with_reducible apply ex_if (b:=false)
   ·walk_at "5"
    walk_at "4";walk_at "n";exact ev_int;walk_at "c";(with_unfolding_all rfl)
    simp [h2]
   intro h;cases h
   intro _
   exact ex_nil
  walk_at "6";(with_reducible apply ex_ret;apply ev_ite (b:=false))
  ·walk_at "5"
   walk_at "4";walk_at "n";exact ev_int;walk_at "c";(with_unfolding_all rfl)
   simp [h3]
  intro h;cases h
  intro _
  (with_reducible apply ev_list);walk_at "3";(with_reducible apply ev_methd);assumption;walk_at "n";exact bo.obj;rfl;exact bkv_off (by decide +kernel);k_is;k_is;k_is;k_is;rfl;walk_at "1";walk_at "n";walk_at "1";walk_at "n";exact evs_nil;rfl;rfl;exact hu _;walk_at "k";rfl;rfl;exact evd_nil;rfl;rfl
end
section
noncomputable def collect {α β:Type} (g:β→α→PyData) (step:β→α→β):β→List α→List PyData
 | _,[]=>[]
 | acc,r::l=>g acc r::collect g step (step acc r) l
theorem ct_acc {S:Sys} {n:Nat} {nm:List (Str × NameKind)} {x:Str} {elt:Expr} {ρ:List (Str × AV)} {α β:Type} (it:α→PyData) (st:β→Sto) (step:β→α→β) (g:β→α→PyData) (Inv:Nat→β→Prop):∀ (l:List α) (acc:β),Inv l.length acc →
  (∀ r∈l,∀ m acc,Inv (m+1) acc→Inv m (step acc r)∧∀ env,Fn' env nm→Ev S n env ((x,.d (it r))::ρ) (st acc) (eval elt env) (.d (g acc r)) (st (step acc r))) →
  CT S n nm x elt [] ρ (l.map it) (st acc) (collect g step acc l) (st (l.foldl step acc))
 | [],_,_,_=>.nil
 | r::l,acc,hi,h=>by
  obtain ⟨h1,h2⟩:=h r (.head _) l.length acc hi
  exact .keep (fun _u _u=>tst_nil) h2 (ct_acc it st step g Inv l _ h1 fun r hr=>h r (.tail _ hr))
@[reducible] noncomputable def rowD (r:List Int):PyData:=.list (r.map .int)
@[reducible] noncomputable def rowG (dr:Nat→Int→Int) (acc:Nat × Bk) (i:Nat):PyData:=rowD (rowK (kindOf dr acc.1) acc.2 i).1
@[reducible] noncomputable def rowS (dr:Nat→Int→Int) (acc:Nat × Bk) (i:Nat):Nat × Bk:=(acc.1+usedOf dr acc.1,(rowK (kindOf dr acc.1) acc.2 i).2)
noncomputable def kindsOf (dr:Nat→Int→Int):Nat→Nat→List Nat
 | 0,_=>[]
 | n+1,k=>kindOf dr k::kindsOf dr n (k+usedOf dr k)
noncomputable def kAfter (dr:Nat→Int→Int):Nat→Nat→Nat
 | 0,k=>k
 | n+1,k=>kAfter dr n (k+usedOf dr k)
theorem usedOf_le (dr:Nat→Int→Int) (k:Nat):usedOf dr k≤2:=by unfold usedOf;split <;> decide
theorem kAfter_le (dr:Nat→Int→Int):∀ n k,kAfter dr n k≤k+2*n
 | 0,k=>Nat.le_refl _
 | n+1,k=>by
  have:=kAfter_le dr n (k+usedOf dr k)
  have:=usedOf_le dr k
  rw [kAfter];walk_at "o"
theorem kindsOf_len (dr:Nat→Int→Int):∀ n k,(kindsOf dr n k).length=n
 | 0,_=>rfl
 | n+1,k=>by rw [kindsOf,List.length_cons,kindsOf_len dr n]
theorem kindsOf_lt (dr:Nat→Int→Int):∀ n k,∀ q∈kindsOf dr n k,q<4
 | 0,_,q,h=>nomatch h
 | n+1,k,q,h=>by
  rw [kindsOf] at h
  rcases List.mem_cons.mp h with rfl | h
  exact kindOf_lt dr k;exact kindsOf_lt dr n _ q h
theorem rows_run (dr:Nat→Int→Int):∀ (n i k:Nat) (bk:Bk),collect (rowG dr) (rowS dr) (k,bk) (List.range' i n)=(rowsK (kindsOf dr n k) i bk).1.map rowD∧(List.range' i n).foldl (rowS dr) (k,bk)=(kAfter dr n k,(rowsK (kindsOf dr n k) i bk).2)
 | 0,i,k,bk=>⟨rfl,rfl⟩
 | n+1,i,k,bk=>by
  obtain ⟨a,b⟩:=rows_run dr n (i+1) (k+usedOf dr k) (rowK (kindOf dr k) bk i).2
  constructor
  ·show rowG dr (k,bk) i::collect (rowG dr) (rowS dr) (rowS dr (k,bk) i) (List.range' (i+1) n)=_
   rw [show rowS dr (k,bk) i=(k+usedOf dr k,(rowK (kindOf dr k) bk i).2) from rfl,a]
   rfl
  show (List.range' (i+1) n).foldl (rowS dr) (rowS dr (k,bk) i)=_
  rw [show rowS dr (k,bk) i=(k+usedOf dr k,(rowK (kindOf dr k) bk i).2) from rfl,b]
  rfl
theorem BI.rows {w:Nat}:∀ (qs:List Nat) (i N:Nat) (bk:Bk),BI w N bk→BI w (N+4*qs.length) (rowsK qs i bk).2
 | [],i,N,bk,h=>h
 | q::qs,i,N,bk,h=>by
  have:=BI.rows qs (i+1) (N+4) _ (h.row q i)
  rw [List.length_cons]
  exact this.le (by walk_at "o")
theorem rows_len:∀ (qs:List Nat) (i:Nat) (bk:Bk),(∀ r∈(rowsK qs i bk).1,r.length≤2)∧(rowsK qs i bk).1.length=qs.length
 | [],i,bk=>⟨fun r h=>(nomatch h),rfl⟩
 | q::qs,i,bk=>by
  obtain ⟨a,b⟩:=rows_len qs (i+1) (rowK q bk i).2
  refine ⟨fun r h=>?_,by show ((rowK q bk i).1::_).length=_;rw [List.length_cons,List.length_cons,b]⟩
  have h:r∈(rowK q bk i).1::(rowsK qs (i+1) (rowK q bk i).2).1:=h
  rcases List.mem_cons.mp h with rfl | h
  ·unfold rowK;(repeat' split) <;> simp
  exact a r h
noncomputable def pickOf (pick:Int) (row:List Int):List Int:=if row=[]∨pick=4 then [] else if pick=5 then row else [row.getD (pick.fmod (row.length:Int)).toNat 0]
theorem pickOf_len {pick:Int} {row:List Int} (h:row.length≤2):(pickOf pick row).length≤2:=by unfold pickOf;(repeat' split) <;> first | walk_at "o" | (simp;done) | (simp;walk_at "o")
noncomputable def clRow (dr:Nat→Int→Int) (acc:List Int × Nat) (row:List Int):List Int × Nat:=(acc.1++pickOf (dr acc.2 6) row,acc.2+1)
noncomputable def twOf (tw:Int):Bool:=tw == 8
noncomputable def twCl (tw:Int) (bit:Nat) (c:List Int):List Int:=if 6<tw then c++[if tw=7 then 0 - 5 else (bit:Int)] else if tw=6∧c≠[] then c.take (c.length - 1)++[0 - c.getD (c.length - 1) 0] else c
theorem twCl_len {tw:Int} {bit:Nat} {c:List Int}:(twCl tw bit c).length≤c.length+1:=by unfold twCl;(repeat' split) <;> first | walk_at "o" | (simp;done) | (simp;walk_at "o")
noncomputable def revIf (b:Bool) (c:List Int):List Int:=if b then c.reverse else c
theorem revIf_len {b:Bool} {c:List Int}:(revIf b c).length=c.length:=by unfold revIf;split <;> simp
theorem cmp_ints_ne {S:Sys} {a b:List Int}:Cmp S .NotEq (.d (rowD a)) (.d (rowD b)) (.d (.bool (!(a == b)))):=by
 have sh:∀ a:List Int,SeqAt.shaped (.list (a.map .int))=true:=fun a=>by
  have h1:∀ a:List Int,PyData.canLayAll0 (a.map .int)=true∧PyData.depthAll (a.map .int)≤1:=fun a=>by
   induction a with
   | nil=>simp [PyData.canLayAll0,PyData.depthAll]
   | cons x a ih=>simp only [List.map_cons,PyData.canLayAll0,PyData.canLay0,PyData.depthAll,PyData.depth];exact ⟨by simpa using ih.1,by have:=ih.2;walk_at "o"⟩
  unfold SeqAt.shaped
  refine Bool.and_eq_true_iff.mpr ⟨by simpa [PyData.canLay0] using (h1 a).1,decide_eq_true ?_⟩
  have:=(h1 a).2
  simp only [PyData.depth]
  walk_at "o"
 have:=cmp_data_ne (S:=S) (sh a) (sh b)
 simp only [PyData.eqv,ints_eqv] at this
 exact this
theorem cmp_rows_nil {S:Sys} {rs:List (List Int)}:Cmp S .Eq (.d (.list (rs.map rowD))) (.d (.list [])) (.d (.bool rs.isEmpty)):=by
 have sh:SeqAt.shaped (.list (rs.map rowD))=true:=by
  have h1:∀ a:List Int,PyData.canLayAll0 (a.map .int)=true∧PyData.depthAll (a.map .int)≤1:=fun a=>by
   induction a with
   | nil=>simp [PyData.canLayAll0,PyData.depthAll]
   | cons x a ih=>simp only [List.map_cons,PyData.canLayAll0,PyData.canLay0,PyData.depthAll,PyData.depth];exact ⟨by simpa using ih.1,by have:=ih.2;walk_at "o"⟩
  have h2:PyData.canLayAll0 (rs.map rowD)=true∧PyData.depthAll (rs.map rowD)≤3:=by
   induction rs with
   | nil=>simp [PyData.canLayAll0,PyData.depthAll]
   | cons x a ih=>
    have:=h1 x
    simp only [List.map_cons,PyData.canLayAll0,PyData.canLay0,PyData.depthAll,PyData.depth]
    exact ⟨by simp [this.1,ih.1],by have:=ih.2;walk_at "o"⟩
  unfold SeqAt.shaped
  refine Bool.and_eq_true_iff.mpr ⟨by simpa [PyData.canLay0] using h2.1,decide_eq_true ?_⟩
  have:=h2.2
  simp only [PyData.depth]
  walk_at "o"
 have:=cmp_data_eq (S:=S) sh (b:=.list []) (by decide +kernel)
 have e:PyData.eqv (.list (rs.map rowD)) (.list [])=rs.isEmpty:=by cases rs <;> simp [PyData.eqv,PyData.eqvAll]
 rwa [e] at this
theorem just_ne {n:Nat}:(((n:Nat):Int) != 1) = !(n == 1):=by
 by_cases h:n=1
 ·subst h;rfl
 rw [beq_eq_false_iff_ne.mpr h,bne_iff_ne.mpr (by walk_at "o")];rfl
theorem just_all {cl:List Int} {rows:List (List Int)}:(rows.filter fun r=>!justRow cl r).isEmpty=rows.all (justRow cl):=by
 induction rows with
 | nil=>rfl
 | cons r rows ih=>
  rw [List.filter_cons,List.all_cons]
  cases justRow cl r
  rfl
  simpa using ih
theorem dueU_ok {cl:List Int} {rows:List (List Int)} {w:Nat}:PyData.strOk (dueU cl rows w)=true:=by unfold dueU;split <;> decide +kernel
@[reducible] noncomputable def bkX (w:Nat):Bk:=⟨[⟨"",[],0,0⟩,⟨"true",[],0,0⟩,⟨"false",[],0,0⟩,⟨"app",[],3,0⟩],["Bool","Int","Real",bvName w],[0,0,0,w],["x"],[3],[((w:Int),3)]⟩
@[reducible] noncomputable def bkY (w:Nat):Bk:=⟨[⟨"",[],0,0⟩,⟨"true",[],0,0⟩,⟨"false",[],0,0⟩,⟨"app",[],3,0⟩,⟨"app",[],3,1⟩],["Bool","Int","Real",bvName w],[0,0,0,w],["x","y"],[3,3],[((w:Int),3)]⟩
theorem mk_x {w:Nat}:freshC (bk1 w) "x" 3=(3,bkX w):=by
 unfold freshC Bk.make
 exact if_pos (show findFrom (⟨"app",[],3,0⟩:Tm) 1 (T3.drop 1)=0 by decide +kernel)
theorem mk_y {w:Nat}:freshC (bkX w) "y" 3=(4,bkY w):=by
 unfold freshC Bk.make
 exact if_pos (show findFrom (⟨"app",[],3,1⟩:Tm) 1 ((bkX 0).tms.drop 1)=0 by decide +kernel)
theorem mk_t {w:Nat}:(bkY w).make (eqT 3 4)=(5,bkT w):=by
 unfold Bk.make
 exact if_pos (show findFrom ((eqT 3 4):Tm) 1 ((bkY 0).tms.drop 1)=0 by decide +kernel)
theorem mk_t' {w:Nat}:(bkY w).make (eqT 4 3)=(5,bkT w):=by
 unfold Bk.make
 exact if_pos (show findFrom ((eqT 4 3):Tm) 1 ((bkY 0).tms.drop 1)=0 by decide +kernel)
theorem bi_T (w:Nat):BI w 6 (bkT w):=⟨rfl,rfl,rfl,rfl,rfl,by show 6≤6;decide,by show 2≤6;decide,by show 2≤6;decide⟩
end
section
variable {B:Base} {R:Addr→Prop} {lo:∀ a,R a→B.h₁.get? a=none} {σ:Sto} {D:BankD} {bk:Bk}
theorem c_unright (hK:(KZ B.w.params).In B.h₁) (bo:BOk R D) {F J dJ tb:Addr} {cells:List Int} {b:Int} (fd:Feed R F cells b) (hF:F∉D.all) (I:Judge R σ J dJ D.b tb) (n1:J≠F) (n2:dJ≠F) (o1:J∉D.all) (o2:dJ∉D.all) {k:Nat} (hk:k+50<1000) :
  ∃ k' bk',FS (B.sys R lo) 8 904 [.v (.ref F),.v (.ref D.b),.v (.ref J)] (wU D σ F cells b k bk0) (.d (.bool true)) (wU D σ F cells b k' bk'):=by
 have IJ:∀ k bk,Judge R (wU D σ F cells b k bk) J dJ D.b tb:=fun k bk=>judgeU I n1 n2 o1 o2
 have d0:=draw_lo (cells:=cells) (k:=k) (b:=b) (many:=3) (by decide)
 have d3:=draw_hi (cells:=cells) (k:=k) (b:=b) (many:=3) (by decide)
 obtain ⟨w,hw⟩:∃ w:Nat,1+drawOf cells k b 3=(w:Int):=⟨(1+drawOf cells k b 3).toNat,by walk_at "o"⟩
 have w3:w=1∨w=2∨w=3:=by walk_at "o"
 have wl:1≤w∧w≤3:=by walk_at "o"
 clear d0 d3
 have fine:=fun tw=>fine_is w3 (kindsOf_len (drw cells b) w (k+2)) (kindsOf_lt (drw cells b) w (k+2)) tw
 have run:=rows_run (drw cells b) w 0 (k+2) (bkT w)
 have bi:=BI.rows (kindsOf (drw cells b) w (k+2)) 0 6 _ (bi_T w)
 have rl:=rows_len (kindsOf (drw cells b) w (k+2)) 0 (bkT w)
 have kl:=kAfter_le (drw cells b) w (k+2)
 rw [kindsOf_len] at bi rl
 rw [← List.range_eq_range'] at run
 obtain ⟨run1,run2⟩:=run
 generalize hRK:rowsK (kindsOf (drw cells b) w (k+2)) 0 (bkT w)=RK at fine run1 run2 bi rl
 obtain ⟨rows,bkR⟩:=RK
 dsimp only at fine run1 run2 bi rl
 generalize kAfter (drw cells b) w (k+2)=k2 at kl run2
 obtain ⟨c0,hc0⟩:∃ c0:List Int,c0=if drawOf cells k2 b 9=8 then [] else [5]:=⟨_,rfl⟩
 have c0l:c0.length≤1:=by rw [hc0];split <;> decide
 obtain ⟨c1,k3,hc1⟩:∃ c1 k3,rows.foldl (clRow (drw cells b)) (c0,k2+1)=(c1,k3):=⟨_,_,rfl⟩
 have k3e:k3=k2+1+w∧c1.length≤1+2*w:=by
  have key:∀ (l:List (List Int)) (c:List Int) (k:Nat),(∀ r∈l,r.length≤2)→(l.foldl (clRow (drw cells b)) (c,k)).2=k+l.length∧(l.foldl (clRow (drw cells b)) (c,k)).1.length≤c.length+2*l.length:=fun l=>by
   induction l with
   | nil=>intro c k _;exact ⟨rfl,Nat.le_refl _⟩
   | cons r l ih=>
    intro c k h
    obtain ⟨a,b'⟩:=ih (c++pickOf (drw cells b k 6) r) (k+1) fun r hr=>h r (.tail _ hr)
    have:=pickOf_len (pick:=drw cells b k 6) (h r (.head _))
    rw [List.length_append] at b'
    refine ⟨a.trans (by rw [List.length_cons];walk_at "o"),Nat.le_trans b' (by rw [List.length_cons];walk_at "o")⟩
  have:=key rows c0 (k2+1) rl.1
  rw [hc1,rl.2] at this
  have t2:c1.length≤c0.length+2*w:=this.2
  exact ⟨this.1,by walk_at "o"⟩
 obtain ⟨tw,htw⟩:∃ tw,drawOf cells k3 b 9=tw:=⟨_,rfl⟩
 have t0:0≤tw:=htw▸draw_lo (by decide)
 have t9:tw<9:=htw▸draw_hi (by decide)
 obtain ⟨c2,hc2⟩:∃ c2,twCl tw (bkR.make (bitT 3 0)).1 c1=c2:=⟨_,rfl⟩
 have c2l:c2.length≤c1.length+1:=hc2▸twCl_len
 obtain ⟨c3,hc3⟩:∃ c3,revIf (drawOf cells (k3+1) b 2 == 1) c2=c3:=⟨_,rfl⟩
 have c3l:c3.length<64:=by rw [← hc3,revIf_len];walk_at "o"
 have bT:BI w (6+4*w+1) (bkTw (twOf tw) bkR):=by
  unfold bkTw
  split
  exact bi.make _;exact bi.le (by walk_at "o")
 have bP:BI w (6+4*w+1+2) (bkP (twOf tw) bkR).2:=bT.fresh "p" 0
 have bQ:BI w (6+4*w+1+2+2) (bkQ (twOf tw) bkR).2:=bP.fresh "q" 0
 have pAt:(bkP (twOf tw) bkR).2.tms[(bkP (twOf tw) bkR).1]?=some ⟨"app",[],0,((bkTw (twOf tw) bkR).fns.length:Int)⟩:=Bk.make_at
 have qAt:(bkQ (twOf tw) bkR).2.tms[(bkQ (twOf tw) bkR).1]?=some ⟨"app",[],0,((bkP (twOf tw) bkR).2.fns.length:Int)⟩:=Bk.make_at
 have pAt2:(bkQ (twOf tw) bkR).2.tms[(bkP (twOf tw) bkR).1]?=some ⟨"app",[],0,((bkTw (twOf tw) bkR).fns.length:Int)⟩:=Bk.make_keep (bk:={ (bkP (twOf tw) bkR).2 with fns:=_,frs:=_ }) pAt
 have bE:BI w (6+4*w+1+2+2+1) (bkE (twOf tw) bkR).2:=bQ.make (eqT (bkP (twOf tw) bkR).1 (bkQ (twOf tw) bkR).1)
 have eAt:(bkE (twOf tw) bkR).2.tms[(bkE (twOf tw) bkR).1]?=some (eqT (bkP (twOf tw) bkR).1 (bkQ (twOf tw) bkR).1):=Bk.make_at
 have fE:=fine (twOf tw)
 refine ⟨k3+2,(bkE (twOf tw) bkR).2,?_⟩
 refine fs_def (names:=["feed","bank","judge"]) hK ?h_1
 case h_1=>
  intro env f
  change Ex _ _ _ [("feed",_),("bank",_),("judge",_)] _ _ _
  walk_at "2"
  ·with_reducible apply ex_assign
   walk_at "f";walk_at "d"
   ·with_reducible apply ev_is (b:=.d (.int (w:Int)))
    (with_reducible apply ev_bin);exact ev_int;(with_reducible apply ev_call);walk_at "g";walk_at "1";walk_at "n";walk_at "1";exact ev_int;exact evs_nil;rfl;rfl;exact c_drawU hK fd hF (by walk_at "o") (by decide);walk_at "k";exact hK _ _ (by k_is);rfl;rfl;walk_at "b"
    rw [hw]
   walk_at "u";rfl
  walk_at "2"
  ·with_reducible apply ex_unpack
   walk_at "f";walk_at "ns";decide;walk_at "da"
   ·with_reducible apply ev_tuple
    ·walk_at "3"
     ·with_reducible apply ev_methd
      assumption;walk_at "n";exact bo.obj;rfl;exact bkv_off (by decide +kernel);k_is;k_is;k_is;k_is;rfl;walk_at "1";exact ev_str;walk_at "1";(with_reducible apply ev_methd);assumption;walk_at "n";exact bo.obj;rfl;exact bkv_off (by decide +kernel);k_is;k_is;k_is;k_is;rfl;walk_at "1";walk_at "n";exact evs_nil;rfl;exact c_bvnew hK bo w3;walk_at "k";rfl;rfl;exact evs_nil;rfl;rfl
      ·have:=c_fresh (lo:=lo) (σ:=fw σ F cells b (k+1)) (nm:="x") (s:=3) hK bo (bk:=bk1 w) (by show 3≤10000;decide) (by show 0≤10000;decide) (by show 0≤10000;decide) (by show 1≤3;decide);rw [mk_x] at this;change FS _ _ _ _ _ (.d (.int 3)) _ at this;exact this
      walk_at "k";rfl;rfl
     ·walk_at "3"
      ·with_reducible apply ev_methd
       assumption;walk_at "n";exact bo.obj;rfl;exact bkv_off (by decide +kernel);k_is;k_is;k_is;k_is;rfl;walk_at "1";exact ev_str;walk_at "1";(with_reducible apply ev_methd);assumption;walk_at "n";exact bo.obj;rfl;exact bkv_off (by decide +kernel);k_is;k_is;k_is;k_is;rfl;walk_at "1";walk_at "n";exact evs_nil;rfl;exact c_bvold hK bo w3 rfl;walk_at "k";rfl;rfl;exact evs_nil;rfl;rfl
       ·have:=c_fresh (lo:=lo) (σ:=fw σ F cells b (k+1)) (nm:="y") (s:=3) hK bo (bk:=bkX w) (by show 4≤10000;decide) (by show 1≤10000;decide) (by show 1≤10000;decide) (by show 1≤4;decide);rw [mk_y] at this;change FS _ _ _ _ _ (.d (.int 4)) _ at this;exact this
       walk_at "k";rfl;rfl
      exact evd_nil;rfl
     rfl
    rfl
   rfl;walk_at "w";walk_at "ua";rfl
  walk_at "2"
  ·show Ex _ _ _ _ _ _ (.next [("feed",.v (.ref F)),("bank",.v (.ref D.b)),("judge",.v (.ref J)),("wide",.d (.int (w:Int))),("x",.d (.int 3)),("y",.d (.int 4)),("t",.d (.int 5))] (wU D σ F cells b (k+2) (bkT w)))
   with_reducible apply ex_sub
   ·by_cases hdir:drawOf cells (k+1) b 2=0
    ·with_reducible apply ex_assign
     walk_at "f";walk_at "d"
     ·with_reducible apply ev_ite (b:=true)
      ·walk_at "5"
       walk_at "4";(with_reducible apply ev_call);walk_at "g";walk_at "1";walk_at "n";walk_at "1";exact ev_int;exact evs_nil;rfl;rfl;exact c_drawU hK fd hF (by walk_at "o") (by decide);walk_at "k";exact hK _ _ (by k_is);rfl;rfl;exact ev_int;walk_at "c";(with_unfolding_all rfl)
       simp [hdir]
      ·intro _
       (with_reducible apply ev_methd);assumption;walk_at "n";exact bo.obj;rfl;exact bkv_off (by decide +kernel);k_is;k_is;k_is;k_is;rfl;walk_at "1";walk_at "n";walk_at "1";walk_at "n";exact evs_nil;rfl;rfl
       ·have:=c_eqne (lo:=lo) (σ:=fw σ F cells b (k+2)) hK bo (bk:=bkY w) (a:=3) (c:=4) (u:=⟨"app",[],3,0⟩) (v:=⟨"app",[],3,1⟩) (by show 5≤10000;decide) rfl rfl rfl (by decide) (by show 1≤5;decide);rw [mk_t] at this;change FS _ _ _ _ _ (.d (.int 5)) _ at this;exact this
       walk_at "k";rfl;rfl
      intro h;cases h
     walk_at "u";rfl
    (with_reducible apply ex_assign);walk_at "f";walk_at "d"
    ·with_reducible apply ev_ite (b:=false)
     ·walk_at "5"
      walk_at "4";(with_reducible apply ev_call);walk_at "g";walk_at "1";walk_at "n";walk_at "1";exact ev_int;exact evs_nil;rfl;rfl;exact c_drawU hK fd hF (by walk_at "o") (by decide);walk_at "k";exact hK _ _ (by k_is);rfl;rfl;exact ev_int;walk_at "c";(with_unfolding_all rfl)
      simp [hdir]
     intro h;cases h
     intro _
     (with_reducible apply ev_methd);assumption;walk_at "n";exact bo.obj;rfl;exact bkv_off (by decide +kernel);k_is;k_is;k_is;k_is;rfl;walk_at "1";walk_at "n";walk_at "1";walk_at "n";exact evs_nil;rfl;rfl
     ·have:=c_eqne (lo:=lo) (σ:=fw σ F cells b (k+2)) hK bo (bk:=bkY w) (a:=4) (c:=3) (u:=⟨"app",[],3,1⟩) (v:=⟨"app",[],3,0⟩) (by show 5≤10000;decide) rfl rfl rfl (by decide) (by show 1≤5;decide);rw [mk_t'] at this;change FS _ _ _ _ _ (.d (.int 5)) _ at this;exact this
     walk_at "k";rfl;rfl
    walk_at "u";rfl
   repeat' (first | exact fa_nil | refine fa_cons (by walk_at "m") ?_)
  walk_at "2"
  ·show Ex _ _ _ _ _ _ (.next [("feed",.v (.ref F)),("bank",.v (.ref D.b)),("judge",.v (.ref J)),("wide",.d (.int (w:Int))),("x",.d (.int 3)),("y",.d (.int 4)),("t",.d (.int 5)),("rows",.d (.list (rows.map rowD)))] (wU D σ F cells b (k2) bkR))
   with_reducible apply ex_sub
   ·with_reducible apply ex_nb (xs:=rows.map rowD)
    ·refine' nb_comp (ρc:=[("bank",.v (.ref D.b)),("feed",.v (.ref F)),("x",.d (.int 3)),("y",.d (.int 4))]) (items:=(List.range w).map fun i:Nat=>PyData.int (i:Int)) (σ₂:=wU D σ F cells b k2 bkR) (by walk_at "f") ((f.toFn.at _).trans rfl) ?cf1 ?it1 (iter_range (n:=w) (by walk_at "o")) ?ct1 ?hz1 (swaps_yes (by walk_at "f") rfl rfl) (fun _u=>rfl)
     case cf1=>
      refine ⟨fun p hp hq=>?_,by decide,by decide,rfl,rfl,?_⟩
      exact f.cells _ (by revert p;decide)
      repeat' (first | exact fa_nil | refine fa_cons ⟨by walk_at "m",rfl,rfl,by dsimp only;decide⟩ ?_)
     case it1=>
      (with_reducible apply ev_callt);((with_reducible apply ev_blt);assumption;walk_at "f";rfl;k_is;exact bb_range;decide;decide);walk_at "1";walk_at "n";exact evs_nil;rfl;exact typ_range (k:=w);rfl;rfl
     case ct1=>
      have hfin:wU D σ F cells b k2 bkR=(fun acc:Nat × Bk=>wU D σ F cells b acc.1 acc.2) ((List.range w).foldl (rowS (drw cells b)) (k+2,bkT w)):=by rw [run2]
      rw [hfin,← run1]
      refine' ct_acc (fun i:Nat=>PyData.int (i:Int)) (fun acc:Nat × Bk=>wU D σ F cells b acc.1 acc.2) (rowS (drw cells b)) (rowG (drw cells b)) (fun m acc=>acc.1+2*m≤k+2+2*w∧m≤w∧BI w (6+4*(w - m)) acc.2) (List.range w) (k+2,bkT w) ⟨by rw [List.length_range];exact Nat.le_refl _,by rw [List.length_range];exact Nat.le_refl _,by rw [List.length_range,Nat.sub_self];exact bi_T w⟩ (fun i hi m acc hinv=>⟨⟨?_,?_,?_⟩,fun env f=>?_⟩)
      ·have:=hinv.1;have:=usedOf_le (drw cells b) acc.1;show acc.1+usedOf (drw cells b) acc.1+2*m≤_;walk_at "o"
      ·have:=hinv.2.1;walk_at "o"
      ·have:=hinv.2.1;exact (hinv.2.2.row _ i).le (by walk_at "o")
      have hir:=List.mem_range.mp hi
      have hbi:=hinv.2.2
      have hm:=hinv.1
      (with_reducible apply ev_call);walk_at "g";walk_at "1";walk_at "n";walk_at "1";walk_at "n";walk_at "1";walk_at "n";walk_at "1";walk_at "n";walk_at "1";walk_at "n";exact evs_nil;rfl;rfl;rfl;rfl;rfl;exact c_row hK bo fd hF (by walk_at "o") hbi (by walk_at "o") hir;walk_at "k";exact hK _ _ (by k_is);rfl;rfl
     case hz1=>simp;walk_at "o"
    walk_at "u"
   repeat' (first | exact sub_nil | refine sub_keep ?_ | refine sub_skip ?_)
  walk_at "2"
  ·show Ex _ _ _ _ _ _ (.next [("feed",.v (.ref F)),("bank",.v (.ref D.b)),("judge",.v (.ref J)),("wide",.d (.int (w:Int))),("x",.d (.int 3)),("y",.d (.int 4)),("t",.d (.int 5)),("rows",.d (.list (rows.map rowD))),("clause",.d (rowD c0))] (wU D σ F cells b (k2+1) bkR))
   clear hc1
   by_cases h8:drawOf cells k2 b 9=8
   ·rw [if_pos h8] at hc0
    subst hc0
    (with_reducible apply ex_assign);walk_at "f";walk_at "d"
    ·with_reducible apply ev_is (b:=.d (rowD []))
     ·with_reducible apply ev_ite (b:=true)
      ·walk_at "5"
       walk_at "4";(with_reducible apply ev_call);walk_at "g";walk_at "1";walk_at "n";walk_at "1";exact ev_int;exact evs_nil;rfl;rfl;exact c_drawU hK fd hF (by walk_at "o") (by decide);walk_at "k";exact hK _ _ (by k_is);rfl;rfl;exact ev_int;walk_at "c";(with_unfolding_all rfl)
       simp [h8]
      ·intro _
       (with_reducible apply ev_list);exact evd_nil;rfl
      intro h;cases h
     rfl
    walk_at "u";rfl
   rw [if_neg h8] at hc0
   subst hc0
   (with_reducible apply ex_assign);walk_at "f";walk_at "d"
   ·with_reducible apply ev_is (b:=.d (rowD [5]))
    ·with_reducible apply ev_ite (b:=false)
     ·walk_at "5"
      walk_at "4";(with_reducible apply ev_call);walk_at "g";walk_at "1";walk_at "n";walk_at "1";exact ev_int;exact evs_nil;rfl;rfl;exact c_drawU hK fd hF (by walk_at "o") (by decide);walk_at "k";exact hK _ _ (by k_is);rfl;rfl;exact ev_int;walk_at "c";(with_unfolding_all rfl)
      simp [h8]
     intro h;cases h
     intro _
     (with_reducible apply ev_list);walk_at "3";walk_at "n";exact evd_nil;rfl;rfl
    rfl
   walk_at "u";rfl
  walk_at "2"
  ·show Ex _ _ _ _ _ _ (.next [("feed",.v (.ref F)),("bank",.v (.ref D.b)),("judge",.v (.ref J)),("wide",.d (.int (w:Int))),("x",.d (.int 3)),("y",.d (.int 4)),("t",.d (.int 5)),("rows",.d (.list (rows.map rowD))),("clause",.d (rowD c1))] (wU D σ F cells b (k3) bkR))
   (with_reducible apply ex_for);walk_at "f";walk_at "d";walk_at "n";exact iter_list
   ·have hfin:(⟨c1,k3⟩:List Int × Nat)=rows.foldl (clRow (drw cells b)) (c0,k2+1):=hc1.symm
    have e1:(Out.next [("feed",.v (.ref F)),("bank",.v (.ref D.b)),("judge",.v (.ref J)),("wide",.d (.int (w:Int))),("x",.d (.int 3)),("y",.d (.int 4)),("t",.d (.int 5)),("rows",.d (.list (rows.map rowD))),("clause",.d (rowD c1))] (wU D σ F cells b (k3) bkR):Out Sto)=.next ((fun acc:List Int × Nat=>([("feed",.v (.ref F)),("bank",.v (.ref D.b)),("judge",.v (.ref J)),("wide",.d (.int (w:Int))),("x",.d (.int 3)),("y",.d (.int 4)),("t",.d (.int 5)),("rows",.d (.list (rows.map rowD))),("clause",.d (rowD acc.1))]:List (Str × AV))) (c1,k3)) ((fun acc:List Int × Nat=>(wU D σ F cells b (acc.2) bkR)) (c1,k3)):=rfl
    rw [e1,hfin]
    refine' turns_acc rowD (fun acc:List Int × Nat=>[("feed",.v (.ref F)),("bank",.v (.ref D.b)),("judge",.v (.ref J)),("wide",.d (.int (w:Int))),("x",.d (.int 3)),("y",.d (.int 4)),("t",.d (.int 5)),("rows",.d (.list (rows.map rowD))),("clause",.d (rowD acc.1))]) (fun acc:List Int × Nat=>(wU D σ F cells b (acc.2) bkR)) (clRow (drw cells b)) (fun m acc=>acc.1.length+2*m≤100∧acc.2+m=k2+1+w) (fun acc=>rfl) rows (c0,k2+1) ⟨by show c0.length+2*rows.length≤100;rw [rl.2];walk_at "o",by rw [rl.2]⟩ (fun row hr m acc hinv=>⟨⟨?_,?_⟩,?_⟩)
    ·have:=hinv.1;have:=pickOf_len (pick:=drw cells b acc.2 6) (rl.1 row hr);show (acc.1++pickOf (drw cells b acc.2 6) row).length+2*m≤100;rw [List.length_append];walk_at "o"
    ·have:=hinv.2;show acc.2+1+m=_;walk_at "o"
    have hinv2:=hinv.2
    show Ex _ _ _ _ _ _ (.next [("feed",.v (.ref F)),("bank",.v (.ref D.b)),("judge",.v (.ref J)),("wide",.d (.int (w:Int))),("x",.d (.int 3)),("y",.d (.int 4)),("t",.d (.int 5)),("rows",.d (.list (rows.map rowD))),("clause",.d (rowD (acc.1++pickOf (drw cells b acc.2 6) row)))] (wU D σ F cells b (acc.2+1) bkR))
    by_cases hrow:row=[]
    ·rw [show pickOf (drw cells b acc.2 6) row=[] from if_pos (.inl hrow),List.append_nil]
     with_reducible apply ex_sub
     ·walk_at "2"
      (with_reducible apply ex_assign);walk_at "f";walk_at "d";(with_reducible apply ev_call);walk_at "g";walk_at "1";walk_at "n";walk_at "1";exact ev_int;exact evs_nil;rfl;rfl;exact c_drawU hK fd hF (by walk_at "o") (by decide);walk_at "k";exact hK _ _ (by k_is);rfl;rfl;walk_at "u";rfl;walk_at "2"
      ·with_reducible apply ex_if (b:=false)
       ·walk_at "5"
        ·with_reducible apply tr_bool
         (with_reducible apply tr_and2 (c:=true));walk_at "4";walk_at "n";(with_reducible apply ev_list);exact evd_nil;rfl;exact cmp_ints_ne (b:=[]);(with_unfolding_all rfl)
         intro h;exact absurd h (by rw [hrow];decide)
        rw [hrow];rfl
       intro h;cases h
       intro _
       exact ex_nil
      exact ex_nil
     repeat' (first | exact sub_nil | refine sub_keep ?_ | refine sub_skip ?_)
    by_cases hp4:drawOf cells acc.2 b 6=4
    ·rw [show pickOf (drw cells b acc.2 6) row=[] from if_pos (.inr hp4),List.append_nil]
     with_reducible apply ex_sub
     ·walk_at "2"
      (with_reducible apply ex_assign);walk_at "f";walk_at "d";(with_reducible apply ev_call);walk_at "g";walk_at "1";walk_at "n";walk_at "1";exact ev_int;exact evs_nil;rfl;rfl;exact c_drawU hK fd hF (by walk_at "o") (by decide);walk_at "k";exact hK _ _ (by k_is);rfl;rfl;walk_at "u";rfl;walk_at "2"
      ·with_reducible apply ex_if (b:=false)
       ·walk_at "5"
        ·with_reducible apply tr_bool
         (with_reducible apply tr_and2);walk_at "4";walk_at "n";(with_reducible apply ev_list);exact evd_nil;rfl;exact cmp_ints_ne (b:=[]);(with_unfolding_all rfl)
         intro _
         walk_at "4";walk_at "n";exact ev_int;walk_at "c";(with_unfolding_all rfl)
        rw [hp4];exact Bool.and_false _
       intro h;cases h
       intro _
       exact ex_nil
      exact ex_nil
     repeat' (first | exact sub_nil | refine sub_keep ?_ | refine sub_skip ?_)
    have hno:¬(row=[]∨drw cells b acc.2 6=4):=fun h=>h.elim hrow hp4
    have hlen:0<row.length:=List.length_pos_iff.mpr hrow
    by_cases hp5:drawOf cells acc.2 b 6=5
    ·rw [show pickOf (drw cells b acc.2 6) row=row from (if_neg hno).trans (if_pos hp5)]
     with_reducible apply ex_sub
     ·walk_at "2"
      (with_reducible apply ex_assign);walk_at "f";walk_at "d";(with_reducible apply ev_call);walk_at "g";walk_at "1";walk_at "n";walk_at "1";exact ev_int;exact evs_nil;rfl;rfl;exact c_drawU hK fd hF (by walk_at "o") (by decide);walk_at "k";exact hK _ _ (by k_is);rfl;rfl;walk_at "u";rfl;walk_at "2"
      ·with_reducible apply ex_if (b:=true)
       ·walk_at "5"
        ·with_reducible apply tr_bool
         (with_reducible apply tr_and2);walk_at "4";walk_at "n";(with_reducible apply ev_list);exact evd_nil;rfl;exact cmp_ints_ne (b:=[]);(with_unfolding_all rfl)
         intro _
         walk_at "4";walk_at "n";exact ev_int;walk_at "c";(with_unfolding_all rfl)
        rw [Bool.and_eq_true];exact ⟨by simpa using hrow,bne_iff_ne.mpr hp4⟩
       ·intro _
        walk_at "2"
        ·with_reducible apply ex_assign
         walk_at "f";walk_at "d"
         ·with_reducible apply ev_is (b:=.d (rowD (acc.1++row)))
          ·with_reducible apply ev_bin
           walk_at "n"
           ·with_reducible apply ev_ite (b:=true)
            ·walk_at "5"
             walk_at "4";walk_at "n";exact ev_int;walk_at "c";(with_unfolding_all rfl)
             rw [beq_iff_eq];exact hp5
            ·intro _
             walk_at "n"
            intro h;cases h
           exact bin_cat (by have:=hinv.1;have:=rl.1 row hr;simp;walk_at "o")
          simp [rowD]
         walk_at "u";rfl
        exact ex_nil
       intro h;cases h
      exact ex_nil
     repeat' (first | exact sub_nil | refine sub_keep ?_ | refine sub_skip ?_)
    rw [show pickOf (drw cells b acc.2 6) row=[row.getD ((drawOf cells acc.2 b 6).fmod (row.length:Int)).toNat 0] from (if_neg hno).trans (if_neg hp5)]
    have m0:0≤(drawOf cells acc.2 b 6).fmod (row.length:Int):=by rw [Int.fmod_eq_emod_of_nonneg _ (by walk_at "o")];exact Int.emod_nonneg _ (by walk_at "o")
    have ml:(drawOf cells acc.2 b 6).fmod (row.length:Int)<(row.length:Int):=by rw [Int.fmod_eq_emod_of_nonneg _ (by walk_at "o")];exact Int.emod_lt_of_pos _ (by walk_at "o")
    have rl2:=rl.1 row hr
    have hidx:(row.map PyData.int)[placeOf ((drawOf cells acc.2 b 6).fmod (row.length:Int)) (row.map PyData.int).length]?=some (.int (row.getD ((drawOf cells acc.2 b 6).fmod (row.length:Int)).toNat 0)):=by
     have e:placeOf ((drawOf cells acc.2 b 6).fmod (row.length:Int)) (row.map PyData.int).length=((drawOf cells acc.2 b 6).fmod (row.length:Int)).toNat:=if_neg (by walk_at "o")
     have hlt:((drawOf cells acc.2 b 6).fmod (row.length:Int)).toNat<row.length:=by walk_at "o"
     rw [e,List.getElem?_map,List.getD_eq_getElem?_getD,List.getElem?_eq_getElem hlt];rfl
    with_reducible apply ex_sub
    ·walk_at "2"
     (with_reducible apply ex_assign);walk_at "f";walk_at "d";(with_reducible apply ev_call);walk_at "g";walk_at "1";walk_at "n";walk_at "1";exact ev_int;exact evs_nil;rfl;rfl;exact c_drawU hK fd hF (by walk_at "o") (by decide);walk_at "k";exact hK _ _ (by k_is);rfl;rfl;walk_at "u";rfl;walk_at "2"
     ·with_reducible apply ex_if (b:=true)
      ·walk_at "5"
       ·with_reducible apply tr_bool
        (with_reducible apply tr_and2);walk_at "4";walk_at "n";(with_reducible apply ev_list);exact evd_nil;rfl;exact cmp_ints_ne (b:=[]);(with_unfolding_all rfl)
        intro _
        walk_at "4";walk_at "n";exact ev_int;walk_at "c";(with_unfolding_all rfl)
       rw [Bool.and_eq_true];exact ⟨by simpa using hrow,bne_iff_ne.mpr hp4⟩
      ·intro _
       walk_at "2"
       ·with_reducible apply ex_assign
        walk_at "f";walk_at "d"
        ·with_reducible apply ev_is (b:=.d (rowD (acc.1++[row.getD ((drawOf cells acc.2 b 6).fmod (row.length:Int)).toNat 0])))
         ·with_reducible apply ev_bin
          walk_at "n"
          ·with_reducible apply ev_ite (b:=false)
           ·walk_at "5"
            walk_at "4";walk_at "n";exact ev_int;walk_at "c";(with_unfolding_all rfl)
            rw [beq_eq_false_iff_ne];exact hp5
           intro h;cases h
           intro _
           with_reducible apply ev_list
           ·walk_at "3"
            ·with_reducible apply ev_sub
             walk_at "n"
             ·with_reducible apply ev_bin
              walk_at "n";(with_reducible apply ev_callb);((with_reducible apply ev_blt);assumption;walk_at "f";rfl;k_is;exact bb_len;decide;decide);walk_at "1";walk_at "n";exact evs_nil;rfl;exact blt_len_list (by rw [List.length_map];have:=rl.1 row hr;walk_at "o");rfl;rfl
              rw [List.length_map]
              exact bin_mod (by walk_at "o")
             exact sub_list (x:=.int (row.getD ((drawOf cells acc.2 b 6).fmod (row.length:Int)).toNat 0)) (by simp;walk_at "o") (by walk_at "o") (by walk_at "o") hidx
            exact evd_nil;rfl
           rfl
          exact bin_cat (by have:=hinv.1;have:=rl.1 row hr;simp;walk_at "o")
         simp [rowD]
        walk_at "u";rfl
       exact ex_nil
      intro h;cases h
     exact ex_nil
    repeat' (first | exact sub_nil | refine sub_keep ?_ | refine sub_skip ?_)
   exact fun _u=>rfl
  walk_at "2"
  ·with_reducible apply ex_assign
   walk_at "f";walk_at "d"
   ·with_reducible apply ev_is (b:=.d (.int tw))
    (with_reducible apply ev_call);walk_at "g";walk_at "1";walk_at "n";walk_at "1";exact ev_int;exact evs_nil;rfl;rfl;exact c_drawU hK fd hF (by walk_at "o") (by decide);walk_at "k";exact hK _ _ (by k_is);rfl;rfl
    rw [htw]
   walk_at "u";rfl
  walk_at "2"
  ·show Ex _ _ _ _ _ _ (.next [("feed",.v (.ref F)),("bank",.v (.ref D.b)),("judge",.v (.ref J)),("wide",.d (.int (w:Int))),("x",.d (.int 3)),("y",.d (.int 4)),("t",.d (.int 5)),("rows",.d (.list (rows.map rowD))),("clause",.d (rowD c2))] (wU D σ F cells b (k3+1) (bkTw (twOf tw) bkR)))
   by_cases h6:tw > 6
   ·by_cases h7:tw=7
    ·rw [← hc2,show twCl tw (bkR.make (bitT 3 0)).1 c1=c1++[0 - 5] by unfold twCl;rw [if_pos h6,if_pos h7],show bkTw (twOf tw) bkR=bkR by unfold twOf bkTw;rw [h7];rfl]
     with_reducible apply ex_sub
     ·with_reducible apply ex_if (b:=true)
      ·walk_at "5"
       walk_at "4";walk_at "n";exact ev_int;walk_at "c";(with_unfolding_all rfl)
       rw [decide_eq_true_eq];exact h6
      ·intro _
       walk_at "2"
       ·with_reducible apply ex_assign
        walk_at "f";walk_at "d"
        ·with_reducible apply ev_is (b:=.d (rowD (c1++[0 - 5])))
         ·with_reducible apply ev_bin
          walk_at "n"
          ·with_reducible apply ev_list
           ·walk_at "3"
            ·with_reducible apply ev_ite (b:=true)
             ·walk_at "5"
              walk_at "4";walk_at "n";exact ev_int;walk_at "c";(with_unfolding_all rfl)
              rw [beq_iff_eq];exact h7
             ·intro _
              (with_reducible apply ev_bin);exact ev_int;walk_at "n";walk_at "b"
             intro h;cases h
            exact evd_nil;rfl
           rfl
          exact bin_cat (by simp;walk_at "o")
         simp [rowD]
        walk_at "u";rfl
       exact ex_nil
      intro h;cases h
     repeat' (first | exact sub_nil | refine sub_keep ?_ | refine sub_skip ?_)
    have h8:tw=8:=by walk_at "o"
    rw [← hc2,show twCl tw (bkR.make (bitT 3 0)).1 c1=c1++[((bkR.make (bitT 3 0)).1:Int)] by unfold twCl;rw [if_pos h6,if_neg h7],show bkTw (twOf tw) bkR=(bkR.make (bitT 3 0)).2 by unfold twOf bkTw;rw [h8];rfl]
    with_reducible apply ex_sub
    ·with_reducible apply ex_if (b:=true)
     ·walk_at "5"
      walk_at "4";walk_at "n";exact ev_int;walk_at "c";(with_unfolding_all rfl)
      rw [decide_eq_true_eq];exact h6
     ·intro _
      walk_at "2"
      ·with_reducible apply ex_assign
       walk_at "f";walk_at "d"
       ·with_reducible apply ev_is (b:=.d (rowD (c1++[((bkR.make (bitT 3 0)).1:Int)])))
        ·with_reducible apply ev_bin
         walk_at "n"
         ·with_reducible apply ev_list
          ·walk_at "3"
           ·with_reducible apply ev_ite (b:=false)
            ·walk_at "5"
             walk_at "4";walk_at "n";exact ev_int;walk_at "c";(with_unfolding_all rfl)
             rw [beq_eq_false_iff_ne];exact h7
            intro h;cases h
            intro _
            (with_reducible apply ev_methd);assumption;walk_at "n";exact bo.obj;rfl;exact bkv_off (by decide +kernel);k_is;k_is;k_is;k_is;rfl;walk_at "1";exact ev_int;walk_at "1";walk_at "n";exact evs_nil;rfl;rfl;exact c_bitU (i:=0) hK bo bi (by walk_at "o") (.inl rfl) (by walk_at "o");walk_at "k";rfl;rfl
           exact evd_nil;rfl
          rfl
         exact bin_cat (by simp;walk_at "o")
        simp [rowD]
       walk_at "u";rfl
      exact ex_nil
     intro h;cases h
    repeat' (first | exact sub_nil | refine sub_keep ?_ | refine sub_skip ?_)
   by_cases h66:tw=6∧c1≠[]
   ·rw [← hc2,show twCl tw (bkR.make (bitT 3 0)).1 c1=c1.take (c1.length - 1)++[0 - c1.getD (c1.length - 1) 0] by unfold twCl;rw [if_neg h6,if_pos h66],show bkTw (twOf tw) bkR=bkR by unfold twOf bkTw;rw [show (tw == 8)=false from beq_eq_false_iff_ne.mpr (by walk_at "o")];rfl]
    have cpos:0<c1.length:=List.length_pos_iff.mpr h66.2
    have hlast:(c1.map PyData.int)[placeOf (-1) (c1.map PyData.int).length]?=some (.int (c1.getD (c1.length - 1) 0)):=by
     have e:placeOf (-1) (c1.map PyData.int).length=c1.length - 1:=by unfold placeOf;rw [if_pos (by decide),List.length_map];walk_at "o"
     rw [e,List.getElem?_map,List.getD_eq_getElem?_getD,List.getElem?_eq_getElem (by walk_at "o")];rfl
    with_reducible apply ex_sub
    ·with_reducible apply ex_if (b:=false)
     ·walk_at "5"
      walk_at "4";walk_at "n";exact ev_int;walk_at "c";(with_unfolding_all rfl)
      rw [decide_eq_false_iff_not];exact h6
     intro h;cases h
     intro _
     walk_at "2"
     ·with_reducible apply ex_if (b:=true)
      ·walk_at "5"
       ·with_reducible apply tr_bool
        (with_reducible apply tr_and2);walk_at "4";walk_at "n";exact ev_int;walk_at "c";(with_unfolding_all rfl)
        intro _
        walk_at "4";walk_at "n";(with_reducible apply ev_list);exact evd_nil;rfl;exact cmp_ints_ne (b:=[]);(with_unfolding_all rfl)
       rw [Bool.and_eq_true];exact ⟨beq_iff_eq.mpr h66.1,by simpa using h66.2⟩
      ·intro _
       walk_at "2"
       ·with_reducible apply ex_assign
        walk_at "f";walk_at "d"
        ·with_reducible apply ev_is (b:=.d (rowD (c1.take (c1.length - 1)++[0 - c1.getD (c1.length - 1) 0])))
         ·with_reducible apply ev_bin
          ·with_reducible apply ev_butlast
           walk_at "n";exact ev_neg
           simp;walk_at "o"
          (with_reducible apply ev_list);walk_at "3";(with_reducible apply ev_bin);exact ev_int;(with_reducible apply ev_sub);walk_at "n";exact ev_neg;exact sub_list (x:=.int (c1.getD (c1.length - 1) 0)) (by simp;walk_at "o") (by decide) (by decide) hlast;walk_at "b";exact evd_nil;rfl;rfl;exact bin_cat (by simp;walk_at "o")
         simp [rowD]
        walk_at "u";rfl
       exact ex_nil
      intro h;cases h
     exact ex_nil
    repeat' (first | exact sub_nil | refine sub_keep ?_ | refine sub_skip ?_)
   rw [← hc2,show twCl tw (bkR.make (bitT 3 0)).1 c1=c1 by unfold twCl;rw [if_neg h6,if_neg h66],show bkTw (twOf tw) bkR=bkR by unfold twOf bkTw;rw [show (tw == 8)=false from beq_eq_false_iff_ne.mpr (by walk_at "o")];rfl]
   by_cases h5:tw=6
   ·have hnil:c1=[]:=Classical.byContradiction fun q=>h66 ⟨h5,q⟩
    with_reducible apply ex_sub
    ·with_reducible apply ex_if (b:=false)
     ·walk_at "5"
      walk_at "4";walk_at "n";exact ev_int;walk_at "c";(with_unfolding_all rfl)
      rw [decide_eq_false_iff_not];exact h6
     intro h;cases h
     intro _
     walk_at "2"
     ·with_reducible apply ex_if (b:=false)
      ·walk_at "5"
       ·with_reducible apply tr_bool
        (with_reducible apply tr_and2);walk_at "4";walk_at "n";exact ev_int;walk_at "c";(with_unfolding_all rfl)
        intro _
        walk_at "4";walk_at "n";(with_reducible apply ev_list);exact evd_nil;rfl;exact cmp_ints_ne (b:=[]);(with_unfolding_all rfl)
       rw [hnil];exact Bool.and_false _
      intro h;cases h
      intro _
      exact ex_nil
     exact ex_nil
    repeat' (first | exact sub_nil | refine sub_keep ?_ | refine sub_skip ?_)
   with_reducible apply ex_sub
   ·with_reducible apply ex_if (b:=false)
    ·walk_at "5"
     walk_at "4";walk_at "n";exact ev_int;walk_at "c";(with_unfolding_all rfl)
     rw [decide_eq_false_iff_not];exact h6
    intro h;cases h
    intro _
    walk_at "2"
    ·with_reducible apply ex_if (b:=false)
     ·walk_at "5"
      ·with_reducible apply tr_bool
       (with_reducible apply tr_and2 (c:=true));walk_at "4";walk_at "n";exact ev_int;walk_at "c";(with_unfolding_all rfl)
       intro h;exact absurd h (by rw [beq_iff_eq];exact h5)
      rw [Bool.and_eq_false_iff];exact .inl (beq_eq_false_iff_ne.mpr h5)
     intro h;cases h
     intro _
     exact ex_nil
    exact ex_nil
   repeat' (first | exact sub_nil | refine sub_keep ?_ | refine sub_skip ?_)
  walk_at "2"
  ·show Ex _ _ _ _ _ _ (.next [("feed",.v (.ref F)),("bank",.v (.ref D.b)),("judge",.v (.ref J)),("wide",.d (.int (w:Int))),("x",.d (.int 3)),("y",.d (.int 4)),("t",.d (.int 5)),("rows",.d (.list (rows.map rowD))),("clause",.d (rowD c3))] (wU D σ F cells b (k3+2) (bkTw (twOf tw) bkR)))
   by_cases hr1:drawOf cells (k3+1) b 2=1
   ·rw [← hc3,show revIf (drawOf cells (k3+1) b 2 == 1) c2=c2.reverse by rw [hr1];rfl]
    with_reducible apply ex_sub
    ·with_reducible apply ex_if (b:=true)
     ·walk_at "5"
      walk_at "4";(with_reducible apply ev_call);walk_at "g";walk_at "1";walk_at "n";walk_at "1";exact ev_int;exact evs_nil;rfl;rfl;exact c_drawU hK fd hF (by walk_at "o") (by decide);walk_at "k";exact hK _ _ (by k_is);rfl;rfl;exact ev_int;walk_at "c";(with_unfolding_all rfl)
      simp [hr1]
     ·intro _
      walk_at "2"
      ·with_reducible apply ex_assign
       walk_at "f";walk_at "d"
       ·with_reducible apply ev_is (b:=.d (rowD c2.reverse))
        ·with_reducible apply ev_rev
         walk_at "n";exact ev_neg
         ·simp;walk_at "o"
         intro o i;exact ⟨_,by with_unfolding_all rfl⟩
        simp [rowD]
       walk_at "u";rfl
      exact ex_nil
     intro h;cases h
    repeat' (first | exact sub_nil | refine sub_keep ?_ | refine sub_skip ?_)
   rw [← hc3,show revIf (drawOf cells (k3+1) b 2 == 1) c2=c2 by rw [show (drawOf cells (k3+1) b 2 == 1)=false from beq_eq_false_iff_ne.mpr hr1];rfl]
   with_reducible apply ex_sub
   ·with_reducible apply ex_if (b:=false)
    ·walk_at "5"
     walk_at "4";(with_reducible apply ev_call);walk_at "g";walk_at "1";walk_at "n";walk_at "1";exact ev_int;exact evs_nil;rfl;rfl;exact c_drawU hK fd hF (by walk_at "o") (by decide);walk_at "k";exact hK _ _ (by k_is);rfl;rfl;exact ev_int;walk_at "c";(with_unfolding_all rfl)
     simp [hr1]
    intro h;cases h
    intro _
    exact ex_nil
   repeat' (first | exact sub_nil | refine sub_keep ?_ | refine sub_skip ?_)
  walk_at "2"
  ·with_reducible apply ex_assign
   walk_at "f";walk_at "d"
   ·with_reducible apply ev_is (b:=.d (.bool (rows.all (justRow c3))))
    ·with_reducible apply ev_cmp
     ·with_reducible apply ev_new
      refine' evn_comp (ρc:=[("clause",.d (rowD c3))]) (by walk_at "f") ?cf3 ?it3 (iter_list (xs:=rows.map rowD)) ?ct3 ?hz3 (fun _u=>rfl)
      case hz3=>rw [List.length_map,rl.2];walk_at "o"
      case cf3=>
       refine ⟨fun p hp hq=>?_,by decide,by decide,rfl,rfl,fun p hp=>?_⟩
       exact f.cells _ (by revert p;decide)
       rw [List.mem_singleton.mp hp];exact ⟨by walk_at "m",rfl,rfl,by dsimp only;decide⟩
      case it3=>
       walk_at "n"
      case ct3=>
       refine' ct_filter rowD (fun r=>!justRow c3 r) rowD fun r hr=>⟨fun env f=>?_,fun hp env f=>?_⟩
       ·with_reducible apply tst_one
        walk_at "5"
        ·walk_at "4"
         ·with_reducible apply ev_callb
          ((with_reducible apply ev_blt);assumption;walk_at "f";rfl;k_is;exact bb_len;decide;decide)
          ·walk_at "1"
           ·with_reducible apply ev_new
            refine' evn_comp (ρc:=[("clause",.d (rowD c3))]) (by walk_at "f") ?cf2 ?it2 (iter_list (xs:=r.map PyData.int)) ?ct2 ?hz2 (fun _u=>rfl)
            case hz2=>have:=rl.1 r hr;simp;walk_at "o"
            case cf2=>
             refine ⟨fun p hp hq=>?_,by decide,by decide,rfl,rfl,fun p hp=>?_⟩
             exact f.cells _ (by revert p;decide)
             rw [List.mem_singleton.mp hp];exact ⟨by walk_at "m",rfl,rfl,by dsimp only;decide⟩
            case it2=>
             walk_at "n"
            case ct2=>
             refine' ct_filter PyData.int (fun one=>c3.contains one) PyData.int fun o ho=>⟨fun env f=>?_,fun hp env f=>?_⟩
             (with_reducible apply tst_one);walk_at "4";walk_at "n";walk_at "n";exact cmp_in_intl;(with_unfolding_all rfl);walk_at "n"
           exact evs_nil;rfl
          exact blt_len_list (by rw [List.length_map];exact Nat.le_trans (List.length_filter_le _ _) (by have:=rl.1 r hr;walk_at "o"));rfl;rfl
         exact ev_int;walk_at "c";(with_unfolding_all rfl)
        rw [List.length_map];exact just_ne
       walk_at "n"
     (with_reducible apply ev_list);exact evd_nil;rfl;exact cmp_rows_nil;(with_unfolding_all rfl)
    rw [just_all]
   walk_at "u";rfl
  walk_at "2"
  ·show Ex _ _ _ _ _ _ (.next [("feed",.v (.ref F)),("bank",.v (.ref D.b)),("judge",.v (.ref J)),("wide",.d (.int (w:Int))),("x",.d (.int 3)),("y",.d (.int 4)),("t",.d (.int 5)),("rows",.d (.list (rows.map rowD))),("clause",.d (rowD c3)),("is_just",.d (.bool (rows.all (justRow c3)))),("due",.d (.str (dueU c3 rows w)))] (wU D σ F cells b (k3+2) (bkTw (twOf tw) bkR)))
   by_cases hd:(rows.all (justRow c3)=true∧(5:Int)∈c3∧c3.length=w+1)
   ·rw [show dueU c3 rows w = "" from if_pos hd]
    (with_reducible apply ex_assign);walk_at "f";walk_at "d"
    ·with_reducible apply ev_ite (b:=true)
     ·walk_at "5"
      ·with_reducible apply tr_bool
       (with_reducible apply tr_and3;apply tr_val);walk_at "n";rfl
       ·intro _
        walk_at "4";walk_at "n";walk_at "n";exact cmp_in_intl;(with_unfolding_all rfl)
       intro _
       walk_at "4";(with_reducible apply ev_callb);((with_reducible apply ev_blt);assumption;walk_at "f";rfl;k_is;exact bb_len;decide;decide);walk_at "1";walk_at "n";exact evs_nil;rfl;exact blt_len_list (by rw [List.length_map];walk_at "o");rfl;rfl;(with_reducible apply ev_bin);walk_at "n";exact ev_int;walk_at "b";walk_at "c";(with_unfolding_all rfl)
      rw [hd.1,List.contains_iff_mem.mpr hd.2.1,List.length_map,hd.2.2];simp
     ·intro _
      exact ev_str
     intro h;cases h
    walk_at "u";rfl
   rw [show dueU c3 rows w = "bits" from if_neg hd]
   (with_reducible apply ex_assign);walk_at "f";walk_at "d"
   ·with_reducible apply ev_ite (b:=false)
    ·walk_at "5"
     ·with_reducible apply tr_bool
      (with_reducible apply tr_and3;apply tr_val);walk_at "n";rfl
      ·intro _
       walk_at "4";walk_at "n";walk_at "n";exact cmp_in_intl;(with_unfolding_all rfl)
      intro _
      walk_at "4";(with_reducible apply ev_callb);((with_reducible apply ev_blt);assumption;walk_at "f";rfl;k_is;exact bb_len;decide;decide);walk_at "1";walk_at "n";exact evs_nil;rfl;exact blt_len_list (by rw [List.length_map];walk_at "o");rfl;rfl;(with_reducible apply ev_bin);walk_at "n";exact ev_int;walk_at "b";walk_at "c";(with_unfolding_all rfl)
     rw [Bool.and_eq_false_iff,Bool.and_eq_false_iff]
     by_cases q1:rows.all (justRow c3)=true
     ·right
      by_cases q2:(5:Int)∈c3
      ·right;rw [beq_eq_false_iff_ne,List.length_map];intro q3;exact hd ⟨q1,q2,by walk_at "o"⟩
      left;rw [← Bool.not_eq_true];intro q3;exact q2 (List.contains_iff_mem.mp q3)
     left;rw [← Bool.not_eq_true];exact q1
    intro h;cases h
    intro _
    exact ev_str
   walk_at "u";rfl
  walk_at "2"
  ·show Ex _ _ _ _ _ _ (.next _ (wU D σ F cells b (k3+2) (bkQ (twOf tw) bkR).2))
   (with_reducible apply ex_unpack);walk_at "f";walk_at "ns";decide;walk_at "da";(with_reducible apply ev_tuple);walk_at "3";(with_reducible apply ev_methd);assumption;walk_at "n";exact bo.obj;rfl;exact bkv_off (by decide +kernel);k_is;k_is;k_is;k_is;rfl;walk_at "1";exact ev_str;walk_at "1";((with_reducible apply ev_globi);assumption;walk_at "f";rfl;k_is;decide);exact evs_nil;rfl;rfl;exact c_fresh hK bo (Nat.le_trans bT.len (by walk_at "o")) (Nat.le_trans bT.fl (by walk_at "o")) (Nat.le_trans bT.rl (by walk_at "o")) bT.pos;walk_at "k";rfl;rfl;walk_at "3";(with_reducible apply ev_methd);assumption;walk_at "n";exact bo.obj;rfl;exact bkv_off (by decide +kernel);k_is;k_is;k_is;k_is;rfl;walk_at "1";exact ev_str;walk_at "1";((with_reducible apply ev_globi);assumption;walk_at "f";rfl;k_is;decide);exact evs_nil;rfl;rfl;exact c_fresh hK bo (Nat.le_trans bP.len (by walk_at "o")) (Nat.le_trans bP.fl (by walk_at "o")) (Nat.le_trans bP.rl (by walk_at "o")) bP.pos;walk_at "k";rfl;rfl;exact evd_nil;rfl;rfl;rfl;rfl;walk_at "w";walk_at "ua";rfl
  have hpq:(bkP (twOf tw) bkR).1≠(bkQ (twOf tw) bkR).1:=by
   intro q
   have a:=qAt
   rw [← q,pAt2] at a
   have a:=congrArg Tm.data (Option.some.inj a)
   have a:((bkTw (twOf tw) bkR).fns.length:Int)=(((bkP (twOf tw) bkR).2.fns.length:Nat):Int):=a
   have e:(bkP (twOf tw) bkR).2.fns.length=(bkTw (twOf tw) bkR).fns.length+1:=by unfold bkP freshC Bk.make;split <;> (dsimp only;rw [List.length_append];rfl)
   walk_at "o"
  have heq:FS (B.sys R lo) 2 375 [.v (.ref D.b),.d (.int ((bkP (twOf tw) bkR).1:Int)),.d (.int ((bkQ (twOf tw) bkR).1:Int))] (wU D σ F cells b (k3+2) (bkQ (twOf tw) bkR).2) (.d (.int ((bkE (twOf tw) bkR).1:Int))) (wU D σ F cells b (k3+2) (bkE (twOf tw) bkR).2):=c_eqne hK bo (Nat.le_trans bQ.len (by walk_at "o")) pAt2 qAt rfl hpq bQ.pos
  have hnote:∀ r∈[3,(bkE (twOf tw) bkR).1,1],FS (B.sys R lo) 2 733 [.v (.ref J),.d (.tuple [.int 5]),.d (.int (r:Int))] (wU D σ F cells b (k3+2) (bkE (twOf tw) bkR).2) (.d (.str "note")) (wU D σ F cells b (k3+2) (bkE (twOf tw) bkR).2):=fun r hr=>by
   have bl:=Nat.le_trans bE.len (show _≤10000 by walk_at "o")
   simp only [List.mem_cons,List.not_mem_nil,or_false] at hr
   rcases hr with rfl | rfl | rfl
   exact c_note1 hK bo bl (IJ _ _) bE.x (by decide +kernel) (by decide +kernel)
   ·by_cases hm:(bkP (twOf tw) bkR).1≤(bkQ (twOf tw) bkR).1
    exact c_note2 (x:=(bkP (twOf tw) bkR).1) (y:=(bkQ (twOf tw) bkR).1) (s:=0) hK bo bl (IJ _ _) eAt rfl (by unfold eqT;dsimp only;rw [Nat.min_eq_left hm,Nat.max_eq_right hm]) (Bk.make_keep pAt2) rfl bE.w0 bE.wl;exact c_note2 (x:=(bkQ (twOf tw) bkR).1) (y:=(bkP (twOf tw) bkR).1) (s:=0) hK bo bl (IJ _ _) eAt rfl (by unfold eqT;dsimp only;rw [Nat.min_eq_right (by walk_at "o"),Nat.max_eq_left (by walk_at "o")]) (Bk.make_keep qAt) rfl bE.w0 bE.wl
   exact c_note1 hK bo bl (IJ _ _) bE.one (by decide +kernel) (by decide +kernel)
  walk_at "2"
  ·with_reducible apply ex_nb (xs:=[.str "note",.str "note",.str "note"])
   ·refine' nb_comp (ρc:=[("judge",.v (.ref J)),("t",.d (.int 5))]) (σ₁:=wU D σ F cells b (k3+2) (bkE (twOf tw) bkR).2) (by walk_at "f") ((f.toFn.at _).trans rfl) ?cf4 ?it4 (iter_tuple (xs:=([3,(bkE (twOf tw) bkR).1,1]:List Nat).map fun r:Nat=>PyData.int (r:Int))) ?ct4 ?hz4 (swaps_yes (by walk_at "f") rfl rfl) (fun _u=>rfl)
    case cf4=>
     refine ⟨fun p hp hq=>?_,by decide,by decide,rfl,rfl,?_⟩
     exact f.cells _ (by revert p;decide)
     repeat' (first | exact fa_nil | refine fa_cons ⟨by walk_at "m",rfl,rfl,by dsimp only;decide⟩ ?_)
    case it4=>
     show Ev _ _ _ _ _ _ (.d (.tuple [.int 3,.int ((bkE (twOf tw) bkR).1:Int),.int 1])) _
     (with_reducible apply ev_tuple);walk_at "3";walk_at "n";walk_at "3";(with_reducible apply ev_methd);assumption;walk_at "n";exact bo.obj;rfl;exact bkv_off (by decide +kernel);k_is;k_is;k_is;k_is;rfl;walk_at "1";walk_at "n";walk_at "1";walk_at "n";exact evs_nil;rfl;rfl;exact heq;walk_at "k";rfl;rfl;walk_at "3";(with_reducible apply ev_methd);assumption;walk_at "n";exact bo.obj;rfl;exact bkv_off (by decide +kernel);k_is;k_is;k_is;k_is;rfl;walk_at "1";walk_at "n";walk_at "1";walk_at "n";exact evs_nil;rfl;rfl;exact c_eqsame hK bo (Nat.le_trans bE.len (by walk_at "o")) bE.x;walk_at "k";rfl;rfl;exact evd_nil;rfl;rfl;rfl;rfl
    case ct4=>
     refine' ct_map (fun r:Nat=>PyData.int (r:Int)) (fun _u=>PyData.str "note") fun r hr env f=>?_
     (with_reducible apply ev_methd);assumption;walk_at "n";exact IJ _ _;rfl;exact judge_off (by decide +kernel);k_is;k_is;k_is;k_is;rfl;walk_at "1";(with_reducible apply ev_tuple);walk_at "3";walk_at "n";exact evd_nil;rfl;rfl;walk_at "1";walk_at "n";exact evs_nil;rfl;rfl;exact hnote r hr;walk_at "k";rfl;rfl
    case hz4=>simp
   walk_at "u"
  have hj:FS (B.sys R lo) 4 733 [.v (.ref J),.d (.tuple (c3.map .int)),.d (.int 5)] (wU D σ F cells b (k3+2) (bkE (twOf tw) bkR).2) (.d (.str (dueU c3 rows w))) (wU D σ F cells b (k3+2) (bkE (twOf tw) bkR).2):=by
   have:=c_unequal (lo:=lo) (σ:=fw σ F cells b (k3+2)) (t:=5) (x:=3) (y:=4) (w:=w) (s:=3) hK bo (Nat.le_trans bE.len (by walk_at "o")) (IJ _ _) bE.t rfl rfl bE.x rfl bE.w3 bE.wl w3 c3l
   rw [show [((5:Nat):Int)]=[5] from rfl,judge_due fE] at this
   exact this
  walk_at "6";(with_reducible apply ex_ret;apply ev_is)
  ·with_reducible apply ev_and2b
   (with_reducible apply ev_cmp;apply ev_methd);assumption;walk_at "n";exact IJ _ _;rfl;exact judge_off (by decide +kernel);k_is;k_is;k_is;k_is;rfl;walk_at "1";(with_reducible apply ev_callt);((with_reducible apply ev_blt);assumption;walk_at "f";rfl;k_is;exact bb_tuple;decide;decide);walk_at "1";walk_at "n";exact evs_nil;rfl;exact typ_tuple_list (by rw [List.length_map];walk_at "o");rfl;rfl;walk_at "1";walk_at "n";exact evs_nil;rfl;rfl;exact hj;walk_at "k";rfl;rfl;walk_at "n";exact cmp_str_eq dueU_ok dueU_ok;(with_unfolding_all rfl)
   intro _
   (with_reducible apply ev_cmp);walk_at "n";(with_reducible apply ev_bin;apply ev_list);walk_at "3";exact ev_str;exact evd_nil;rfl;rfl;exact ev_int;exact bin_rep (k:=3) (by decide) (by decide);exact cmp_data_eq (by decide +kernel) (by decide +kernel);(with_unfolding_all rfl)
  rw [beq_self_eq_true,Bool.true_and];rfl
end
section
section
variable {prog:Program} {w:World} {A:Around} {E:Value→Shared→Prop} {s:Shared} {V:Addr→Prop} {K:Frag} {x C dx:Addr} {name:Str} {kvs:List (PyData × AV)}
theorem strKeys_none {h:Heap} {es:List DictEntry} (r:EntAll V h w es kvs) (hs:strKeys kvs=true) (hn:kvGet kvs (.str name)=none):(∀ e∈es,e.key.isStr name=false)∧es.any (·.refKey)=false:=by
 induction r with
 | nil=>exact ⟨fun e h=>by simp at h,rfl⟩
 | @cons e es k v kvs a b c r ih=>
  unfold strKeys at hs
  rw [List.all_cons,Bool.and_eq_true] at hs
  unfold kvGet at hn
  by_cases he:PyData.eqv k (.str name)=true
  ·rw [if_pos he] at hn;cases hn
  rw [if_neg he] at hn
  obtain ⟨i1,i2⟩:=ih hs.2 hn
  obtain ⟨y,ey⟩:=key_str hs.1
  dsimp only at ey
  rw [ey] at a he
  obtain ⟨t,hk⟩:=a.ofStr
  refine ⟨fun e' h'=>?_,?_⟩
  ·rcases List.mem_cons.mp h' with rfl | h'
   ·rw [hk]
    have:¬(y == name)=true:=by simpa [PyData.eqv] using he
    show (y == name)=false
    simpa using this
   exact i1 e' h'
  rw [List.any_cons,i2,Bool.or_false];unfold DictEntry.refKey;rw [hk]
set_option maxHeartbeats 8000000 in
theorem set_attr (X:K.In s.heap) (e1:s.heap.get? x=some ⟨.ref C,some dx,.plain,#[]⟩) {es:Array DictEntry} {ep:Nat} (e2:s.heap.get? dx=some { cls:=.type "dict",data:=.dict es ep }) (hn1:∀ e∈es.toList,e.key.isStr name=false) (hn2:es.toList.any (·.refKey)=false)
  (hset:findIn K (.ref C) "__setattr__"=some (some (.builtin "object.__setattr__"))) (hp:plainOver K C=true) (ht:takerIn K C name=some none) (hh:(clsIn K C).any (·.hasDict)=true) {v:Value} (hz:es.size≤1000) {Q:Unit→Shared→Prop}
  (h:∀ h' tk t,h'.get? dx=some { cls:=.type "dict",data:=.dict (es.push ⟨PyData.keyHash w.params name,.str name t,v⟩) (ep+1) }→Heap.SameBut dx s.heap h'→Q () { s with heap:=h',toks:=tk }) :
  wpAny (model prog w) A (setAttr (.ref x) name v) Q E s:=by
 obtain ⟨hp0,g0,d0,t0,os0⟩:=s
 dsimp only at X e1 e2 h
 have I:InstAt hp0 x ⟨.ref C,some dx,.plain,#[]⟩ C (some (dictOf es.toList ep)):=⟨e1,rfl,rfl,dictOf_of e2⟩
 refine set_plain X I hset ?_
 refine osa_open X I hp ht fun b=>?_
 obtain ⟨cd,hc,hd'⟩:=any_some hh
 refine wpAny_bind (wpAny_pure (wpAny_bind (wpAny_bind (wpAny_loadPart e1 (wpAny_bind (Looks.at (looks_clsIn X hc) ?_))))))
 rw [hd']
 refine wpAny_pure (a:=some dx) (wpAny_bind (wpAny_pure (wpAny_bind ?_)))
 unfold nsSet
 refine wpAny_bind (wpAny_bind (wpAny_askSetting (wpAny_pure (wpAny_bind (wpAny_mkText (wpAny_bind (wpAny_loadPart e2 ?_)))))))
 dsimp only
 have c:(!es.any (·.key.isStr name)&&es.any (·.refKey))=false:=by
  rw [← Array.any_toList,← Array.any_toList,hn2,Bool.and_false]
 rw [aRefKeyMayBeTheName_at,c]
 have put:Obj.putName name (PyData.keyHash w.params name) (.str name (t0+1)) v { cls:=.type "dict",data:=.dict es ep } = { cls:=.type "dict",data:=.dict (es.push ⟨PyData.keyHash w.params name,.str name (t0+1),v⟩) (ep+1) }:=by
  rw [Obj.putName_eq]
  unfold Obj.putNameByArray
  dsimp only
  rw [show es.findIdx? (·.key.isStr name)=none by
   obtain ⟨l⟩:=es
   rw [List.findIdx?_toArray]
   exact List.findIdx?_eq_none_iff.mpr fun e he=>hn1 e he]
 have D':=Heap.get?_update_self (Obj.putName name (PyData.keyHash w.params name) (.str name (t0+1)) v) e2 (by rw [put];rfl)
 rw [put] at D'
 refine wpAny_updatePart e2 ?_
 refine wpAny_bind (wpAny_lookBehind D' (pastItsLine_dict (by rw [Array.size_push,sizeLine_eq];walk_at "o")) ?_)
 exact wpAny_pure (h _ _ _ D' (Heap.SameBut.update ..))
end
end
section
variable {B:Base} {R:Addr→Prop} {lo:∀ a,R a→B.h₁.get? a=none} {n:Nat} {env:Env} {ρ ρ₁:List (Str × AV)} {σ σ₁ σ₂:Sto} {nm:List (Str × NameKind)}
structure Cls (K:Frag) (C:Addr):Prop where
 set:findIn K (.ref C) "__setattr__"=some (some (.builtin "object.__setattr__"))
 over:plainOver K C=true
 dict:(clsIn K C).any (·.hasDict)=true
theorem set_new {K:Frag} (hK:K.In B.h₁) {x C dx:Addr} {kvs:List (PyData × AV)} (c:Cls K C) (I:Obj' R σ x C dx kvs) (hs:strKeys kvs=true) {name:Str} (hnm:PyData.strOk name=true) (hn:kvGet kvs (.str name)=none) (ht:takerIn K C name=some none) (hz:kvs.length≤1000) {av:AV}
  {V:Addr→Prop} {A:Around} {s:Shared} {v:Value} {Q:Unit→Shared→Prop} {E:Value→Shared→Prop} (bs:Bs (B.sys R lo) s.heap) (vk:VOk (B.sys R lo) V s.heap) (wd:WdOf B.w R V s.heap σ) (rv:VR V s.heap v av)
  (h:∀ h' tk,Heap.SameBut dx s.heap h'→WdOf B.w R V h' (put σ dx (.dict (kvs++[(.str name,av)])))→Q () { s with heap:=h',toks:=tk }):wpAny (model B.prog B.w) A (setAttr (.ref x) name v) Q E s:=by
 have e1:=wd_raw wd I.rx I.ex
 obtain ⟨⟨es,ep,e2,hr⟩,kk⟩:=wd_dict wd I.rd I.ed
 obtain ⟨n1,n2⟩:=strKeys_none (name:=name) hr hs hn
 have hV:V dx:=vk.1 dx I.rd
 refine set_attr (hK.keeps bs) e1 e2 n1 n2 c.set c.over ht c.dict (by rw [← Array.length_toList,hr.length];exact hz) fun h' tk t e sb=>?_
 have g:Grow (fun b=>b=dx) s.heap h':=Grow.same sb rfl
 have xv:∀ b,b=dx→V b:=fun b e=>e▸hV
 refine h h' tk sb (wd_put wd hV sb ⟨⟨_,_,e,?_⟩,?_⟩)
 ·rw [Array.toList_push]
  exact (hr.grow g xv).set_new (.str _ _) rfl (rv.grow g xv)
 have:=kk.set (v:=av) (KeyD.str (n:=6) name hnm)
 have hk:keyAt kvs (.str name)=none:=by
  cases q:keyAt kvs (.str name) with
  | none=>rfl
  | some i=>obtain ⟨p,_,hp⟩:=kvGet_some q;rw [hn] at hp;cases hp
 rwa [kvSet_none hk] at this
theorem ex_setd {K:Frag} (hK:K.In B.h₁) {x C dx:Addr} {kvs:List (PyData × AV)} {o value:Expr} {name:Str} {pos' pos:Pos} {av:AV} (c:Cls K C) (h1:Ev (B.sys R lo) n env ρ σ (eval value env) av σ₁) (h2:Ev (B.sys R lo) n env ρ σ₁ (eval o env) (.v (.ref x)) σ₁)
  (I:Obj' R σ₁ x C dx kvs) (hs:strKeys kvs=true) (hnm:PyData.strOk name=true) (hn:kvGet kvs (.str name)=none) (ht:takerIn K C name=some none) (hz:kvs.length≤1000) (hsw:swapsWith value (some (.Attribute o name pos')) pos.line env=pure false) :
  Ex (B.sys R lo) n env ρ σ (exec (.Assign [.Attribute o name pos'] value pos) env) (.next ρ (put σ₁ dx (.dict (kvs++[(.str name,av)])))):=by
 constructor;intro V A s Q E rm q h
 refine plainObj_wpAny_Assign_Attribute (wpAny_pos rm.pos (h1.run V A s _ E rm q fun v ha ta ga qa ra pa=>h2.run V A _ _ E (rm.at pa) qa fun u hb tb gb qb rb=>?_)) hsw
 have rb:u=.ref x:=rb
 subst rb
 refine set_new hK c I hs hnm hn ht hz qb.base qb.vok qb.wd (ra.grow gb qa.vok.1) fun h' tk sb wd=>?_
 have g:Grow R hb h':=Grow.same sb I.rd
 exact h _ h' tk ((ga.trans gb).trans g).own ⟨rfl,qb.world g wd⟩
noncomputable def NS (S:Sys) (n:Nat) (env:Env) (ρ:List (Str × AV)) (σ:Sto) (t:Sem Flow) (σ₁:Addr→Sto) (m:Mut):Prop:=
 ∀ (V:Addr→Prop) (A:Around) (s:Shared) (Q:Flow→Shared→Prop) (E:Value→Shared→Prop),Rn A n s.toks→View S V env s.heap ρ σ →
  (∀ a h' tk,s.heap.get? a=none→Grow (fun b=>S.R b∨Own env b) s.heap h'→View S (fun b=>V b∨b=a) env h' ρ (σ₁ a)→MAt S.w (fun b=>V b∨b=a) h' a m→Q .next { s with heap:=h',toks:=tk })→wpAny (model S.prog S.w) A t Q E s
theorem ns_of {K:Frag} (hK:K.In B.h₁) {x C dx:Addr} {kvs:List (PyData × AV)} {o value:Expr} {name:Str} {pos' pos:Pos} {m:Mut} (c:Cls K C)
  (h1:∀ (V:Addr→Prop) (A:Around) (s:Shared) (Q:Value→Shared→Prop) (E:Value→Shared→Prop),Rn A n s.toks→View (B.sys R lo) V env s.heap ρ σ →
   (∀ a h' tk,s.heap.get? a=none→Grow R s.heap h'→View (B.sys R lo) (fun b=>V b∨b=a) env h' ρ σ₁→MAt B.w (fun b=>V b∨b=a) h' a m→Q (.ref a) { s with heap:=h',toks:=tk })→wpAny (model B.prog B.w) A (eval value env) Q E s)
  (h2:Ev (B.sys R lo) n env ρ σ₁ (eval o env) (.v (.ref x)) σ₁)
  (I:Obj' R σ₁ x C dx kvs) (hs:strKeys kvs=true) (hnm:PyData.strOk name=true) (hn:kvGet kvs (.str name)=none) (ht:takerIn K C name=some none) (hz:kvs.length≤1000) (hsw:swapsWith value (some (.Attribute o name pos')) pos.line env=pure false) :
  NS (B.sys R lo) n env ρ σ (exec (.Assign [.Attribute o name pos'] value pos) env) (fun a=>put σ₁ dx (.dict (kvs++[(.str name,.v (.ref a))]))) m:=by
 intro V A s Q E rm q h
 refine plainObj_wpAny_Assign_Attribute (wpAny_pos rm.pos (h1 V A s _ E rm q fun a ha ta na ga qa ra pa=>h2.run _ A _ _ E (rm.at pa) qa fun u hb tb gb qb rb=>?_)) hsw
 have rb:u=.ref x:=rb
 subst rb
 have nR:¬R a:=fun k=>by obtain ⟨o,e⟩:=(q.vok.2 a (q.vok.1 a k)).2;rw [na] at e;cases e
 refine set_new hK c I hs hnm hn ht hz qb.base qb.vok qb.wd (av:=.v (.ref a)) rfl fun h' tk sb wd=>?_
 have g:Grow R hb h':=Grow.same sb I.rd
 have xv:∀ b,R b→V b∨b=a:=fun b k=>.inl (q.vok.1 b k)
 have ne:¬a=dx:=fun e=>nR (e▸I.rd)
 exact h a h' tk na ((ga.trans gb).trans g).own (qb.world g wd) (((ra.grow gb xv nR)).grow g xv nR)
theorem ns_list {K:Frag} (hK:K.In B.h₁) {x C dx:Addr} {kvs:List (PyData × AV)} {o value:Expr} {name:Str} {pos' pos:Pos} {xs:List PyData} (c:Cls K C) (h1:EvN (B.sys R lo) n env ρ σ (eval value env) xs σ₁) (h2:Ev (B.sys R lo) n env ρ σ₁ (eval o env) (.v (.ref x)) σ₁)
  (I:Obj' R σ₁ x C dx kvs) (hs:strKeys kvs=true) (hnm:PyData.strOk name=true) (hn:kvGet kvs (.str name)=none) (ht:takerIn K C name=some none) (hz:kvs.length≤1000) (hsw:swapsWith value (some (.Attribute o name pos')) pos.line env=pure false) :
  NS (B.sys R lo) n env ρ σ (exec (.Assign [.Attribute o name pos'] value pos) env) (fun a=>put σ₁ dx (.dict (kvs++[(.str name,.v (.ref a))]))) (.list xs):=
 ns_of hK c (fun V A s Q E rm q h=>h1 V A s Q E rm q fun a its h' tk hn g q1 hl ra=>h a h' tk hn g q1 ⟨its,hl,ra⟩) h2 I hs hnm hn ht hz hsw
theorem ns_dict {K:Frag} (hK:K.In B.h₁) {x C dx:Addr} {kvs:List (PyData × AV)} {o:Expr} {name:Str} {p pos' pos:Pos} (c:Cls K C) (h2:Ev (B.sys R lo) n env ρ σ (eval o env) (.v (.ref x)) σ)
  (I:Obj' R σ x C dx kvs) (hs:strKeys kvs=true) (hnm:PyData.strOk name=true) (hn:kvGet kvs (.str name)=none) (ht:takerIn K C name=some none) (hz:kvs.length≤1000) (hsw:swapsWith (.Dict [] [] p) (some (.Attribute o name pos')) pos.line env=pure false) :
  NS (B.sys R lo) n env ρ σ (exec (.Assign [.Attribute o name pos'] (.Dict [] [] p) pos) env) (fun a=>put σ dx (.dict (kvs++[(.str name,.v (.ref a))]))) (.dict []):=by
 refine ns_of hK c (fun V A s Q E rm q h=>?_) h2 I hs hnm hn ht hz hsw
 refine wpAny_Dict_empty ?_
 have fr:s.heap.get? s.heap.objs.size=none:=none_size _ (Nat.le_refl _)
 exact h _ _ s.toks fr (Grow.push _ _) (q.wide (Grow.push _ _) (fun _u k=>.inl k) fun b k=>k.imp id fun k=>by subst k;exact ⟨fr,_,Heap.get?_push_size _ rfl⟩) ⟨⟨#[],0,Heap.get?_push_size _ rfl,.nil⟩,⟨fun _u hp=>(by simp at hp),List.nodup_nil⟩⟩
structure ExG (B:Base) (R:Addr→Prop) (lo:∀ a,R a→B.h₁.get? a=none) (n:Nat) (env:Env) (ρ:List (Str × AV)) (σ:Sto) (t:Sem Flow) (P:(Addr→Prop)→Sto→Prop):Prop where
 run:∀ (V:Addr→Prop) (A:Around) (s:Shared) (Q:Flow→Shared→Prop) (E:Value→Shared→Prop),Rn A n s.toks→View (B.sys R lo) V env s.heap ρ σ →
  (∀ (R':Addr→Prop) (lo':∀ a,R' a→B.h₁.get? a=none) ρ' σ' h' tk,P R' σ'→(∀ b,R b→R' b)→(∀ b,R' b→R b∨s.heap.get? b=none)→Grow (fun b=>R b∨Own env b) s.heap h'→View (B.sys R' lo') (fun b=>V b∨R' b) env h' ρ' σ'→Q .next { s with heap:=h',toks:=tk }) →
  wpAny (model B.prog B.w) A t Q E s
theorem exg_nil {P:(Addr→Prop)→Sto→Prop} (h:P R σ):ExG B R lo n env ρ σ (execs [] env) P:=.mk fun V A s Q E rm q k=>by
 have e:(fun b=>V b∨R b)=V:=funext fun b=>propext ⟨fun h=>h.elim id (q.vok.1 b),.inl⟩
 exact wpAny_execs_nil (k R lo ρ σ s.heap s.toks h (fun _u k=>k) (fun _u k=>.inl k) (Grow.refl _ _) (by rw [e];exact q))
theorem gone_of {S:Sys} {V:Addr→Prop} {h h':Heap} {σ':Sto} (q:View S V env h ρ σ) (q':View S V env h' ρ₁ σ') (g:Grow (fun b=>S.R b∨Own env b) h h') {b:Addr} (hb:h'.get? b=none):h.get? b=none:=by
 cases e:h.get? b with
 | none=>rfl
 | some o=>
  by_cases k:S.R b∨Own env b
  ·have hv:V b:=k.elim (q.vok.1 b) fun k=>(q.ownLt k).1
   obtain ⟨o',e'⟩:=(q'.vok.2 b hv).2;rw [hb] at e';cases e'
  have:=g _ o e k;rw [hb] at this;cases this
theorem exg_step {P:(Addr→Prop)→Sto→Prop} {st:Stmt} {rest:List Stmt} (h1:Ex (B.sys R lo) n env ρ σ (exec st env) (.next ρ₁ σ₁)) (h2:ExG B R lo n env ρ₁ σ₁ (execs rest env) P):ExG B R lo n env ρ σ (execs (st::rest) env) P:=.mk fun V A s Q E rm q k=>by
 refine wpAny_execs_cons (wpAny_pos rm.pos (h1.run V A s _ E rm q fun f h' tk g r p1=>?_))
 obtain ⟨rfl,q1⟩:=r
 exact h2.run V A _ Q E (rm.at p1) q1 fun R' lo' ρ' σ' h'' tk' p up fr g' q'=>k R' lo' ρ' σ' h'' tk' p up (fun b hb=>(fr b hb).imp id (gone_of q q1 g)) (g.trans g') q'
theorem exg_new {P:(Addr→Prop)→Sto→Prop} {st:Stmt} {rest:List Stmt} {m:Mut} {σf:Addr→Sto} (h1:NS (B.sys R lo) n env ρ σ (exec st env) σf m)
  (h2:∀ a (na:B.h₁.get? a=none) (nR:¬R a),ExG B (fun b=>R b∨b=a) (lo_more lo na) n env ρ (put (σf a) a m) (execs rest env) P):ExG B R lo n env ρ σ (execs (st::rest) env) P:=.mk fun V A s Q E rm q k=>by
 refine wpAny_execs_cons (wpAny_pos rm.pos (h1 V A s _ E rm q fun a h' tk hn g q1 hm p1=>?_))
 have nR:¬R a:=fun k=>by obtain ⟨o,e⟩:=(q.vok.2 a (q.vok.1 a k)).2;rw [hn] at e;cases e
 have nO:¬Own env a:=fun k=>by obtain ⟨_,o,e⟩:=q.ownLt k;rw [hn] at e;cases e
 have na:B.h₁.get? a=none:=by
  cases e:B.h₁.get? a with
  | none=>rfl
  | some o=>have:=q.base a o e;rw [hn] at this;cases this
 have q2:=q1.widen na nR nO (.inr rfl) hm
 refine (h2 a na nR).run _ A _ Q E (rm.at p1) q2 fun R' lo' ρ' σ' h'' tk' p up fr g' q'=>?_
 have e:(fun b=>(V b∨b=a)∨R' b)=fun b=>V b∨R' b:=funext fun b=>propext ⟨fun h=>h.elim (fun h=>h.elim .inl fun e=>.inr (up b (.inr e))) .inr,fun h=>h.elim (fun h=>.inl (.inl h)) .inr⟩
 have gone:∀ b,h'.get? b=none→s.heap.get? b=none:=fun b hb=>by
  cases e:s.heap.get? b with
  | none=>rfl
  | some o=>
   by_cases k:R b∨Own env b
   ·have hv:V b:=k.elim (q.vok.1 b) fun k=>(q.ownLt k).1
    obtain ⟨o',e'⟩:=(q1.vok.2 b (.inl hv)).2;rw [hb] at e';cases e'
   have:=g _ o e k;rw [hb] at this;cases this
 refine k R' lo' ρ' σ' h'' tk' p (fun b hb=>up b (.inl hb)) (fun b hb=>?_) ?_ (by rw [← e];exact q')
 ·rcases fr b hb with (hb | rfl) | hb
  exact .inl hb;exact .inr hn;exact .inr (gone b hb)
 refine Grow.drop (X:=fun b=>(R b∨Own env b)∨b=a) ((g.mono fun b k=>.inl k).trans (g'.mono fun b k=>?_)) fun b (k:(R b∨Own env b)∨b=a)=>k.imp id fun e=>by rw [e];exact hn
 rcases k with (k | k) | k
 exact .inl (.inl k);exact .inr k;exact .inl (.inr k)
end
section
noncomputable def FSG (B:Base) (R:Addr→Prop) (lo:∀ a,R a→B.h₁.get? a=none) (n:Nat) (f:Addr) (as:List AV) (σ:Sto) (P:(Addr→Prop)→Sto→Prop):Prop:=
 ∀ (V:Addr→Prop) (A:Around) (s:Shared) (vs:List Value) (Rr:Result→Shared→Prop),Rn A n s.toks→Bs (B.sys R lo) s.heap→VOk (B.sys R lo) V s.heap→WdOf B.w R V s.heap σ→VRs V s.heap vs as →
  (∀ (R':Addr→Prop) (lo':∀ a,R' a→B.h₁.get? a=none) σ' h' tk,P R' σ'→(∀ b,R b→R' b)→(∀ b,R' b→R b∨s.heap.get? b=none)→Grow R s.heap h'→Bs (B.sys R' lo') h'→VOk (B.sys R' lo') (fun b=>V b∨R' b) h'→WdOf B.w R' (fun b=>V b∨R' b) h' σ'→Rr (.ok (.ret .none)) { s with heap:=h',toks:=tk }) →
  codeAny (model B.prog B.w) A (.call (.ref f) ⟨vs,[]⟩) Rr s
theorem fsg_def {B:Base} {R:Addr→Prop} {lo:∀ a,R a→B.h₁.get? a=none} {n:Nat} {f:Addr} {of:Obj} {fd:FuncData} {body:List Stmt} {names:List Str} {as:List AV} {σ:Sto} {P:(Addr→Prop)→Sto→Prop} {nm:List (Str × NameKind)} {K:Frag} (hK:K.In B.h₁)
  (h:∀ env,Fn' env nm→ExG B R lo n env (names.zip as) σ (execs body env) P)
  (hl:K.lookup f=some of:=by k_is) (hd:of.data=.func fd:=by exact rfl) (hcd:codeIn K fd.code fd.qualname=true:=by k_is) (hbody:fd.body=.stmts body:=by exact rfl) (hclo:fd.closure=[]:=by exact rfl) (hg:fd.globals=mainGlobals:=by exact rfl) (hb:fd.builtins=builtinsNs:=by exact rfl) (hnm:fd.scope.names=nm:=by dsimp only) (hlen:names.length=as.length:=by exact rfl) (hbind:∀ vs:List Value,vs.length=names.length→bindArgs fd ⟨vs,[]⟩=pure (names.zip vs):=by walk_at "nz bind") (hnd:names.Nodup:=by decide) (hkinds:(names.all fun x=>decide (nm.lookup x=some .local)||(decide (nm.lookup x=some .cell)&&decide ((x,NameKind.cell)∈nm)))=true:=by rfl) (hco:fd.scope.isCoroutine=false:=by exact rfl) (hgen:fd.scope.isGenerator=false:=by exact rfl) (hk:fd.scope.kind=.function:=by exact rfl):FSG B R lo (n+1) f as σ P:=by
 have ho:=hK _ _ hl
 have hcd:=codeRec_of hK hcd
 have hcells:∀ x,nm.lookup x=some .cell→(x,NameKind.cell)∈nm:=fun x hx=>mem_of_lookup hx
 intro V A s vs Rr rm bs vk wd r hq
 have hlv:vs.length=names.length:=by rw [r.length,hlen]
 have kinds:∀ x∈names.zip vs,fd.scope.names.lookup x.1=some .local∨(fd.scope.names.lookup x.1=some .cell∧((cellsFrom (s.heap.objs.size+1) fd.scope.names []).lookup x.1).isSome=true):=fun x hx=>by
  rw [hnm]
  have:=List.all_eq_true.mp hkinds x.1 (zip_mem_fst hx)
  rw [Bool.or_eq_true,Bool.and_eq_true,decide_eq_true_eq,decide_eq_true_eq,decide_eq_true_eq] at this
  exact this.imp id fun k=>⟨k.1,cellsFrom_in _ _ _ k.2⟩
 refine call_cells_pos rm.pos rm.depth (bs _ _ ho) hd (B.lim.keeps bs) (hcd.keeps bs) hbody (hbind vs hlv) hclo kinds (fun s₁ p₁ x=>?_) hco hgen hk
 generalize henv:callEnvC fd s.heap.objs.size f=env at x ⊢
 have f':Fn' env nm:=by
  subst henv
  exact ⟨⟨hk,hnm,hg,hb⟩,fun y hy=>Option.isSome_iff_exists.mp (by
   show ((cellsFrom (s.heap.objs.size+1) fd.scope.names []).lookup y).isSome=true
   rw [hnm];exact cellsFrom_in _ _ _ (hcells y hy))⟩
 have hL:env.locals=s.heap.objs.size:=by subst henv;rfl
 obtain ⟨h₁,tk₁,rfl⟩:=x.toInCall.same
 have keep:∀ b o,s.heap.get? b=some o→h₁.get? b=some o:=x.toInCall.keep
 have hns:=x.toInCall.ns
 have g0:Grow (fun _u=>False) s.heap h₁:=.of keep
 have ownLo:∀ a,Own env a→s.heap.get? a=none:=fun a k=>none_size _ (k.elim (fun e=>by rw [e,hL];exact Nat.le_refl _) fun ⟨y,e⟩=>by
  have:=x.above y a (mem_of_lookup e)
  rw [hL] at this
  exact Nat.le_of_lt this)
 have ownHi:∀ a,Own env a→∃ o,h₁.get? a=some o:=fun a k=>k.elim (fun e=>by rw [e];obtain ⟨o,_,_,e,_⟩:=hns;exact ⟨o,e⟩) fun ⟨y,e⟩=>let ⟨o,e,_⟩:=x.cell y a e;⟨o,e⟩
 have ownBase:∀ a,Own env a→B.h₁.get? a=none:=fun a k=>by
  cases e:B.h₁.get? a with
  | none=>rfl
  | some o=>have:=bs a o e;rw [ownLo a k] at this;cases this
 have g0R:Grow R s.heap h₁:=g0.mono fun _u k=>k.elim
 have to:∀ a,(V a∨Own env a)→V a∨s.heap.get? a=none:=fun a k=>k.imp id (ownLo a)
 have wd':WdOf B.w R (fun a=>V a∨Own env a) h₁ σ:=(B.sys R lo).grow ((B.sys R lo).to wd to fun a k=>.inl (vk.1 a k)) g0 (fun _u k=>k.elim) fun _u k=>k.elim
 have ownR:∀ a,Own env a→¬R a:=fun a k q=>by
  obtain ⟨o,e⟩:=(vk.2 a (vk.1 a q)).2
  rw [ownLo a k] at e;cases e
 have q:View (B.sys R lo) (fun a=>V a∨Own env a) env h₁ (names.zip as) σ:=by
  refine ⟨fun a o e=>keep a o (bs a o e),⟨fun a k=>.inl (vk.1 a k),fun a k=>?_⟩,⟨_,hns,fun p hp=>?_⟩,fun y c e=>⟨_,x.cell y c e⟩,x.apart,⟨.inr (.inl rfl),ownR _ (.inl rfl)⟩,fun y c e=>⟨.inr (.inr ⟨y,e⟩),ownR _ (.inr ⟨y,e⟩),?_⟩,wd'⟩
  ·rcases k with k | k
   exact ⟨(vk.2 a k).1,let ⟨o,e⟩:=(vk.2 a k).2;⟨o,keep a o e⟩⟩;exact ⟨ownBase a k,ownHi a k⟩
  ·obtain ⟨v,hm,rv⟩:=zip_two r hp
   have hfst:((names.zip vs).map (·.1)).Nodup:=by rw [zip_fst hlv.symm];exact hnd
   refine ⟨v,(rv.to to).grow g0 (fun _u k=>k.elim),?_⟩
   rcases kinds _ hm with hl | ⟨hl,hs⟩
   ·have hk':env.kindOf p.1=some .local:=by rw [f'.at,← hnm];exact hl
    exact .inl ⟨hk',bindL_in _ hk' _ _ hfst hm⟩
   have hk':env.kindOf p.1=some .cell:=by rw [f'.at,← hnm];exact hl
   obtain ⟨c,hc⟩:=f'.cells p.1 (by rw [← hnm];exact hl)
   refine .inr ⟨hk',c,hc,?_⟩
   have:=x.cell _ c hc
   rwa [bindC_in _ (by rw [hk'];decide) _ _ hfst hm] at this
  exact Nat.ne_of_gt (x.above y c (mem_of_lookup e))
 refine (h env f').run (fun a=>V a∨Own env a) (A.deeper env) _ _ _ (rm.deeper.at p₁) q fun R' lo' ρ' σ' h' tk p up fr g q'=>?_
 have g1:Grow R s.heap h':=(g0R.mono fun a k=>.inl k).trans g |>.drop fun a k=>k.imp id (ownLo a)
 refine hq R' lo' σ' h' tk p up (fun b hb=>(fr b hb).imp id fun e=>?_) g1 q'.base ⟨fun a k=>.inr k,fun a k=>q'.vok.2 a (k.elim (fun k=>.inl (.inl k)) .inr)⟩ ((B.sys R' lo').to q'.wd (fun a k=>.inl (k.elim (fun k=>.inl (.inl k)) .inr)) fun a k=>.inr k)
 cases e':s.heap.get? b with
 | none=>rfl
 | some o=>have:=keep b o e';rw [e] at this;cases this
theorem Obj'.ne {R:Addr→Prop} {σ:Sto} {x C dx:Addr} {kvs:List (PyData × AV)} (I:Obj' R σ x C dx kvs):x≠dx:=by
 rintro rfl
 have:=I.ex
 rw [I.ed] at this
 cases this
theorem Obj'.upd {R:Addr→Prop} {σ:Sto} {x C dx:Addr} {kvs kvs':List (PyData × AV)} (I:Obj' R σ x C dx kvs):Obj' R (Nz.put σ dx (.dict kvs')) x C dx kvs':=⟨I.rx,(put_there I.ne).trans I.ex,I.rd,put_here⟩
structure Ldg (R:Addr→Prop) (σ:Sto) (x dx:Addr) (L:List (Addr × Mut)):Prop where
 at_:∀ p∈L,R p.1∧σ p.1=some p.2∧p.1≠dx∧p.1≠x
 nd:(L.map (·.1)).Nodup
theorem Ldg.upd {R:Addr→Prop} {σ:Sto} {x dx:Addr} {L:List (Addr × Mut)} {m:Mut} (h:Ldg R σ x dx L):Ldg R (put σ dx m) x dx L:=⟨fun p hp=>⟨(h.at_ p hp).1,(put_there (h.at_ p hp).2.2.1).trans (h.at_ p hp).2.1,(h.at_ p hp).2.2⟩,h.nd⟩
theorem Ldg.add {R:Addr→Prop} {σ:Sto} {x dx a:Addr} {L:List (Addr × Mut)} {m m':Mut} (h:Ldg R σ x dx L) (hd:R dx) (hx:R x) (n:¬R a):Ldg (fun b=>R b∨b=a) (put (put σ dx m) a m') x dx (L++[(a,m')]):=by
 have ne:∀ p∈L,p.1≠a:=fun p hp e=>n (e▸(h.at_ p hp).1)
 refine ⟨fun p hp=>?_,?_⟩
 ·rcases List.mem_append.mp hp with hp | hp
  exact ⟨.inl (h.at_ p hp).1,(put_there (ne p hp)).trans ((put_there (h.at_ p hp).2.2.1).trans (h.at_ p hp).2.1),(h.at_ p hp).2.2⟩
  rw [List.mem_singleton.mp hp];exact ⟨.inr rfl,put_here,fun e=>n (by have e:a=dx:=e;rw [e];exact hd),fun e=>n (by have e:a=x:=e;rw [e];exact hx)⟩
 rw [List.map_append,List.nodup_append]
 refine ⟨h.nd,by simp,fun x hx y hy=>?_⟩
 obtain ⟨p,hp,rfl⟩:=List.mem_map.mp hx
 simp at hy
 rw [hy];exact ne p hp
theorem Ldg.all {R:Addr→Prop} {σ:Sto} {x dx:Addr} {L:List (Addr × Mut)} (h:Ldg R σ x dx L) (n:x≠dx):(x::dx::L.map (·.1)).Nodup:=by
 refine List.nodup_cons.mpr ⟨fun k=>?_,List.nodup_cons.mpr ⟨fun k=>?_,h.nd⟩⟩
 ·rcases List.mem_cons.mp k with e | k
  exact n e
  obtain ⟨p,hp,e⟩:=List.mem_map.mp k
  exact (h.at_ p hp).2.2.2 e
 obtain ⟨p,hp,e⟩:=List.mem_map.mp k
 exact (h.at_ p hp).2.2.1 e
theorem Obj'.add {R:Addr→Prop} {σ:Sto} {x C dx a:Addr} {kvs kvs':List (PyData × AV)} {m:Mut} (I:Obj' R σ x C dx kvs) (n:¬R a):Obj' (fun b=>R b∨b=a) (Nz.put (Nz.put σ dx (.dict kvs')) a m) x C dx kvs':=(I.upd (kvs':=kvs')).more n
end
section
variable {B:Base} {R:Addr→Prop} {lo:∀ a,R a→B.h₁.get? a=none} {σ:Sto}
theorem hdi_628 (w:World):hasDictIn (KZ w.params) 628=true:=by k_is
theorem hdi_845 (w:World):hasDictIn (KZ w.params) 845=true:=by k_is
theorem cls_bank (w:World):Cls (KZ w.params) 628:=⟨by k_is,by k_is,hdi_628 w⟩
theorem cls_judge (w:World):Cls (KZ w.params) 845:=⟨by k_is,by k_is,hdi_845 w⟩
theorem c_makeG (hK:(KZ B.w.params).In B.h₁) {x dx nb to ta ts td:Addr} {kvs:List (PyData × AV)} {nums:List (PyData × AV)} {lo' la ls ld:List PyData} (I:Obj' R σ x 628 dx kvs) (hs:strKeys kvs=true)
  (knb:kvGet kvs (.str "numbers")=some (.v (.ref nb))) (kto:kvGet kvs (.str "term_ops")=some (.v (.ref to))) (kta:kvGet kvs (.str "term_args")=some (.v (.ref ta))) (kts:kvGet kvs (.str "term_sorts")=some (.v (.ref ts))) (ktd:kvGet kvs (.str "term_datas")=some (.v (.ref td)))
  (rnb:R nb) (rto:R to) (rta:R ta) (rts:R ts) (rtd:R td) (gnb:σ nb=some (.dict nums)) (gto:σ to=some (.list lo')) (gta:σ ta=some (.list la)) (gts:σ ts=some (.list ls)) (gtd:σ td=some (.list ld)) (nd:[x,dx,to,ta,ts,td,nb].Nodup) (hsys:(nb == sysModules)=false)
  {t:Tm} (hop:PyData.strOk t.op=true) (h0:kvGet nums t.key=none) (z1:lo'.length≤1000) (z2:la.length≤1000) (z3:ls.length≤1000) (z4:ld.length≤1000) (z5:nums.length≤1000) (hpos:0<lo'.length) :
  FS (B.sys R lo) 1 249 [.v (.ref x),.d (.str t.op),.d (.tuple (t.args.map .int)),.d (.int t.sort),.d (.int t.data)] σ (.d (.int (lo'.length:Int)))
   (put (put (put (put (put σ to (.list (lo'++[.str t.op]))) ta (.list (la++[.tuple (t.args.map .int)]))) ts (.list (ls++[.int t.sort]))) td (.list (ld++[.int t.data]))) nb (.dict (kvSet nums t.key (.d (.int (lo'.length:Int)))))):=by
 refine fs_def (names:=["self","op","args","sort","data"]) hK ?h_1
 case h_1=>
  intro env f
  change Ex _ _ _ [("self",_),("op",_),("args",_),("sort",_),("data",_)] _ _ _
  have Q0:=I
  have Q1:=Q0.put (a:=to) (m:=.list (lo'++[.str t.op])) (nd_ne nd (i:=0) (j:=2) rfl rfl (by decide)) (nd_ne nd (i:=1) (j:=2) rfl rfl (by decide))
  have Q2:=Q1.put (a:=ta) (m:=.list (la++[.tuple (t.args.map .int)])) (nd_ne nd (i:=0) (j:=3) rfl rfl (by decide)) (nd_ne nd (i:=1) (j:=3) rfl rfl (by decide))
  have Q3:=Q2.put (a:=ts) (m:=.list (ls++[.int t.sort])) (nd_ne nd (i:=0) (j:=4) rfl rfl (by decide)) (nd_ne nd (i:=1) (j:=4) rfl rfl (by decide))
  have Q4:=Q3.put (a:=td) (m:=.list (ld++[.int t.data])) (nd_ne nd (i:=0) (j:=5) rfl rfl (by decide)) (nd_ne nd (i:=1) (j:=5) rfl rfl (by decide))
  walk_at "2";(with_reducible apply ex_assign);walk_at "f";walk_at "d";(with_reducible apply ev_tuple);walk_at "3";walk_at "n";walk_at "3";walk_at "n";walk_at "3";walk_at "n";walk_at "3";walk_at "n";exact evd_nil;rfl;rfl;rfl;rfl;rfl;walk_at "u";rfl;walk_at "2"
  ·with_reducible apply ex_assign
   walk_at "f";walk_at "d"
   ·with_reducible apply ev_is (b:=.d (.int 0))
    (with_reducible apply ev_methb;apply ev_attr);assumption;walk_at "n";exact I;exact hs;exact knb;rfl;k_is;k_is;k_is;(with_unfolding_all rfl);exact meth_dict rnb gnb PySem.F.slot_dict_get rfl;walk_at "1";walk_at "n";walk_at "1";exact ev_int;exact evs_nil;rfl;rfl;exact Act.of (opw_dget rnb gnb (key_ok hop) hsys);rfl;rfl;rfl
    show (kvGet nums t.key).getD _=_;rw [h0];rfl
   walk_at "u";rfl
  walk_at "2"
  ·with_reducible apply ex_if (b:=true)
   walk_at "5";walk_at "4";walk_at "n";exact ev_int;walk_at "c";(with_unfolding_all rfl);rfl
   ·intro _
    walk_at "2";(with_reducible apply ex_assign);walk_at "f";walk_at "d";(with_reducible apply ev_callbW);((with_reducible apply ev_blt);assumption;walk_at "f";rfl;k_is;exact bb_len;decide;decide);walk_at "1";(with_reducible apply ev_attr);assumption;walk_at "n";exact I;exact hs;exact kto;rfl;k_is;k_is;k_is;(with_unfolding_all rfl);exact evs_nil;rfl;exact opw_fst (c:=.d (.int _)) rto gto trivial (blt_len_list (by walk_at "o"));rfl;rfl;walk_at "u";rfl;walk_at "2";(with_reducible apply ex_expr;apply ev_methb;apply ev_attr);assumption;walk_at "n";exact Q0;exact hs;exact kto;rfl;k_is;k_is;k_is;(with_unfolding_all rfl);exact meth_list rto gto PySem.F.slot_list_append rfl;walk_at "1";walk_at "n";exact evs_nil;rfl;exact act_append rto gto (by walk_at "o");rfl;rfl;rfl;exact Fn.quiet (by walk_at "f");rfl;walk_at "2";(with_reducible apply ex_expr;apply ev_methb;apply ev_attr);assumption;walk_at "n";exact Q1;exact hs;exact kta;rfl;k_is;k_is;k_is;(with_unfolding_all rfl);exact meth_list rta ((put_there (nd_ne nd (i:=3) (j:=2) rfl rfl (by decide))).trans gta) PySem.F.slot_list_append rfl;walk_at "1";walk_at "n";exact evs_nil;rfl;exact act_append rta ((put_there (nd_ne nd (i:=3) (j:=2) rfl rfl (by decide))).trans gta) (by walk_at "o");rfl;rfl;rfl;exact Fn.quiet (by walk_at "f");rfl;walk_at "2";(with_reducible apply ex_expr;apply ev_methb;apply ev_attr);assumption;walk_at "n";exact Q2;exact hs;exact kts;rfl;k_is;k_is;k_is;(with_unfolding_all rfl);exact meth_list rts ((put_there (nd_ne nd (i:=4) (j:=3) rfl rfl (by decide))).trans ((put_there (nd_ne nd (i:=4) (j:=2) rfl rfl (by decide))).trans gts)) PySem.F.slot_list_append rfl;walk_at "1";walk_at "n";exact evs_nil;rfl;exact act_append rts ((put_there (nd_ne nd (i:=4) (j:=3) rfl rfl (by decide))).trans ((put_there (nd_ne nd (i:=4) (j:=2) rfl rfl (by decide))).trans gts)) (by walk_at "o");rfl;rfl;rfl;exact Fn.quiet (by walk_at "f");rfl;walk_at "2";(with_reducible apply ex_expr;apply ev_methb;apply ev_attr);assumption;walk_at "n";exact Q3;exact hs;exact ktd;rfl;k_is;k_is;k_is;(with_unfolding_all rfl);exact meth_list rtd ((put_there (nd_ne nd (i:=5) (j:=4) rfl rfl (by decide))).trans ((put_there (nd_ne nd (i:=5) (j:=3) rfl rfl (by decide))).trans ((put_there (nd_ne nd (i:=5) (j:=2) rfl rfl (by decide))).trans gtd))) PySem.F.slot_list_append rfl;walk_at "1";walk_at "n";exact evs_nil;rfl;exact act_append rtd ((put_there (nd_ne nd (i:=5) (j:=4) rfl rfl (by decide))).trans ((put_there (nd_ne nd (i:=5) (j:=3) rfl rfl (by decide))).trans ((put_there (nd_ne nd (i:=5) (j:=2) rfl rfl (by decide))).trans gtd))) (by walk_at "o");rfl;rfl;rfl;exact Fn.quiet (by walk_at "f");rfl;walk_at "2"
    ·with_reducible apply ex_dset
     walk_at "n";(with_reducible apply ev_attr);assumption;walk_at "n";exact Q4;exact hs;exact knb;rfl;k_is;k_is;k_is;(with_unfolding_all rfl);walk_at "n";exact rnb;exact ((put_there (nd_ne nd (i:=6) (j:=5) rfl rfl (by decide))).trans ((put_there (nd_ne nd (i:=6) (j:=4) rfl rfl (by decide))).trans ((put_there (nd_ne nd (i:=6) (j:=3) rfl rfl (by decide))).trans ((put_there (nd_ne nd (i:=6) (j:=2) rfl rfl (by decide))).trans gnb))));exact key_ok hop
     ·walk_at "o"
     rfl
    exact ex_nil
   intro h;cases h
  walk_at "6";(with_reducible apply ex_ret);walk_at "n"
@[reducible] noncomputable def kv11 (sn sw fn fa fr to ta ts td nb:Addr):List (PyData × AV):=[(.str "sort_names",.v (.ref sn)),(.str "sort_widths",.v (.ref sw)),(.str "fun_names",.v (.ref fn)),(.str "fun_args",.v (.ref fa)),(.str "fun_results",.v (.ref fr)),(.str "fresh_count",.d (.int 0)),(.str "term_ops",.v (.ref to)),(.str "term_args",.v (.ref ta)),(.str "term_sorts",.v (.ref ts)),(.str "term_datas",.v (.ref td)),(.str "numbers",.v (.ref nb))]
@[reducible] noncomputable def keys11:List PyData:=[.str "sort_names",.str "sort_widths",.str "fun_names",.str "fun_args",.str "fun_results",.str "fresh_count",.str "term_ops",.str "term_args",.str "term_sorts",.str "term_datas",.str "numbers"]
structure BInit (R:Addr→Prop) (σ:Sto) (x dx:Addr) (R':Addr→Prop) (σ':Sto) (sn sw fn fa fr to ta ts td nb:Addr):Prop where
 nd:[x,dx,sn,sw,fn,fa,fr,to,ta,ts,td,nb].Nodup
 more:∀ b,R' b↔R b∨b∈[sn,sw,fn,fa,fr,to,ta,ts,td,nb]
 new:∀ a∈[sn,sw,fn,fa,fr,to,ta,ts,td,nb],¬R a
 g_x:σ' x=σ x
 g_dx:σ' dx=some (.dict (kv11 sn sw fn fa fr to ta ts td nb++[(.str "true_number",.d (.int 1))]++[(.str "false_number",.d (.int 2))]))
 g_sn:σ' sn=some (.list [.str "Bool",.str "Int",.str "Real"])
 g_sw:σ' sw=some (.list [.int 0,.int 0,.int 0])
 g_fn:σ' fn=some (.list [])
 g_fa:σ' fa=some (.list [])
 g_fr:σ' fr=some (.list [])
 g_to:σ' to=some (.list [.str "",.str "true",.str "false"])
 g_ta:σ' ta=some (.list [.tuple [],.tuple [],.tuple []])
 g_ts:σ' ts=some (.list [.int 0,.int 0,.int 0])
 g_td:σ' td=some (.list [.int 0,.int 0,.int 0])
 g_nb:σ' nb=some (.dict (numsFrom 1 (T3.drop 1)))
 off:∀ b,R b→b≠dx→σ' b=σ b
theorem nmem_ne {a b:Addr} {l:List Addr} (hb:b∉l) (h:a∈l):b≠a:=by rintro rfl;exact hb h
structure BR (R:Addr→Prop) (sn sw fn fa fr to ta ts td nb:Addr):Prop where
 r_sn:R sn
 r_sw:R sw
 r_fn:R fn
 r_fa:R fa
 r_fr:R fr
 r_to:R to
 r_ta:R ta
 r_ts:R ts
 r_td:R td
 r_nb:R nb
structure BMid (R:Addr→Prop) (σ S:Sto) (x dx:Addr) (kvs:List (PyData × AV)) (sn sw fn fa fr to ta ts td nb:Addr) (lo' la ls ld:List PyData) (nums:List (PyData × AV)):Prop where
 I:Obj' R S x 628 dx kvs
 g_sn:S sn=some (.list [.str "Bool",.str "Int",.str "Real"])
 g_sw:S sw=some (.list [.int 0,.int 0,.int 0])
 g_fn:S fn=some (.list [])
 g_fa:S fa=some (.list [])
 g_fr:S fr=some (.list [])
 g_to:S to=some (.list lo')
 g_ta:S ta=some (.list la)
 g_ts:S ts=some (.list ls)
 g_td:S td=some (.list ld)
 g_nb:S nb=some (.dict nums)
 r:BR R sn sw fn fa fr to ta ts td nb
 off:∀ b,b∉[dx,sn,sw,fn,fa,fr,to,ta,ts,td,nb]→S b=σ b
variable {S:Sto} {x dx sn sw fn fa fr to ta ts td nb:Addr} {kvs kvs' nums nn:List (PyData × AV)} {lo' la ls ld l1 l2 l3 l4:List PyData}
theorem BMid.mid (m:BMid R σ S x dx kvs sn sw fn fa fr to ta ts td nb lo' la ls ld nums) (nd:[x,dx,sn,sw,fn,fa,fr,to,ta,ts,td,nb].Nodup):Obj' R (put (put (put (put (put S to (.list l1)) ta (.list l2)) ts (.list l3)) td (.list l4)) nb (.dict nn)) x 628 dx kvs:=((((m.I.put (nd_ne nd (i:=0) (j:=7) rfl rfl (by decide)) (nd_ne nd (i:=1) (j:=7) rfl rfl (by decide))).put (nd_ne nd (i:=0) (j:=8) rfl rfl (by decide)) (nd_ne nd (i:=1) (j:=8) rfl rfl (by decide))).put (nd_ne nd (i:=0) (j:=9) rfl rfl (by decide)) (nd_ne nd (i:=1) (j:=9) rfl rfl (by decide))).put (nd_ne nd (i:=0) (j:=10) rfl rfl (by decide)) (nd_ne nd (i:=1) (j:=10) rfl rfl (by decide))).put (nd_ne nd (i:=0) (j:=11) rfl rfl (by decide)) (nd_ne nd (i:=1) (j:=11) rfl rfl (by decide))
theorem BMid.step (m:BMid R σ S x dx kvs sn sw fn fa fr to ta ts td nb lo' la ls ld nums) (nd:[x,dx,sn,sw,fn,fa,fr,to,ta,ts,td,nb].Nodup):BMid R σ (put (put (put (put (put (put S to (.list l1)) ta (.list l2)) ts (.list l3)) td (.list l4)) nb (.dict nn)) dx (.dict kvs')) x dx kvs' sn sw fn fa fr to ta ts td nb l1 l2 l3 l4 nn:=
 ⟨(m.mid nd).upd,((put_there (nd_ne nd (i:=2) (j:=1) rfl rfl (by decide))).trans ((put_there (nd_ne nd (i:=2) (j:=11) rfl rfl (by decide))).trans ((put_there (nd_ne nd (i:=2) (j:=10) rfl rfl (by decide))).trans ((put_there (nd_ne nd (i:=2) (j:=9) rfl rfl (by decide))).trans ((put_there (nd_ne nd (i:=2) (j:=8) rfl rfl (by decide))).trans ((put_there (nd_ne nd (i:=2) (j:=7) rfl rfl (by decide))).trans m.g_sn)))))),((put_there (nd_ne nd (i:=3) (j:=1) rfl rfl (by decide))).trans ((put_there (nd_ne nd (i:=3) (j:=11) rfl rfl (by decide))).trans ((put_there (nd_ne nd (i:=3) (j:=10) rfl rfl (by decide))).trans ((put_there (nd_ne nd (i:=3) (j:=9) rfl rfl (by decide))).trans ((put_there (nd_ne nd (i:=3) (j:=8) rfl rfl (by decide))).trans ((put_there (nd_ne nd (i:=3) (j:=7) rfl rfl (by decide))).trans m.g_sw)))))),((put_there (nd_ne nd (i:=4) (j:=1) rfl rfl (by decide))).trans ((put_there (nd_ne nd (i:=4) (j:=11) rfl rfl (by decide))).trans ((put_there (nd_ne nd (i:=4) (j:=10) rfl rfl (by decide))).trans ((put_there (nd_ne nd (i:=4) (j:=9) rfl rfl (by decide))).trans ((put_there (nd_ne nd (i:=4) (j:=8) rfl rfl (by decide))).trans ((put_there (nd_ne nd (i:=4) (j:=7) rfl rfl (by decide))).trans m.g_fn)))))),((put_there (nd_ne nd (i:=5) (j:=1) rfl rfl (by decide))).trans ((put_there (nd_ne nd (i:=5) (j:=11) rfl rfl (by decide))).trans ((put_there (nd_ne nd (i:=5) (j:=10) rfl rfl (by decide))).trans ((put_there (nd_ne nd (i:=5) (j:=9) rfl rfl (by decide))).trans ((put_there (nd_ne nd (i:=5) (j:=8) rfl rfl (by decide))).trans ((put_there (nd_ne nd (i:=5) (j:=7) rfl rfl (by decide))).trans m.g_fa)))))),((put_there (nd_ne nd (i:=6) (j:=1) rfl rfl (by decide))).trans ((put_there (nd_ne nd (i:=6) (j:=11) rfl rfl (by decide))).trans ((put_there (nd_ne nd (i:=6) (j:=10) rfl rfl (by decide))).trans ((put_there (nd_ne nd (i:=6) (j:=9) rfl rfl (by decide))).trans ((put_there (nd_ne nd (i:=6) (j:=8) rfl rfl (by decide))).trans ((put_there (nd_ne nd (i:=6) (j:=7) rfl rfl (by decide))).trans m.g_fr)))))),((put_there (nd_ne nd (i:=7) (j:=1) rfl rfl (by decide))).trans ((put_there (nd_ne nd (i:=7) (j:=11) rfl rfl (by decide))).trans ((put_there (nd_ne nd (i:=7) (j:=10) rfl rfl (by decide))).trans ((put_there (nd_ne nd (i:=7) (j:=9) rfl rfl (by decide))).trans ((put_there (nd_ne nd (i:=7) (j:=8) rfl rfl (by decide))).trans put_here))))),((put_there (nd_ne nd (i:=8) (j:=1) rfl rfl (by decide))).trans ((put_there (nd_ne nd (i:=8) (j:=11) rfl rfl (by decide))).trans ((put_there (nd_ne nd (i:=8) (j:=10) rfl rfl (by decide))).trans ((put_there (nd_ne nd (i:=8) (j:=9) rfl rfl (by decide))).trans put_here)))),((put_there (nd_ne nd (i:=9) (j:=1) rfl rfl (by decide))).trans ((put_there (nd_ne nd (i:=9) (j:=11) rfl rfl (by decide))).trans ((put_there (nd_ne nd (i:=9) (j:=10) rfl rfl (by decide))).trans put_here))),((put_there (nd_ne nd (i:=10) (j:=1) rfl rfl (by decide))).trans ((put_there (nd_ne nd (i:=10) (j:=11) rfl rfl (by decide))).trans put_here)),((put_there (nd_ne nd (i:=11) (j:=1) rfl rfl (by decide))).trans put_here),m.r,fun b hb=>(put_there (nmem_ne hb (.head _))).trans ((put_there (nmem_ne hb (.tail _ (.tail _ (.tail _ (.tail _ (.tail _ (.tail _ (.tail _ (.tail _ (.tail _ (.tail _ (.head _))))))))))))).trans ((put_there (nmem_ne hb (.tail _ (.tail _ (.tail _ (.tail _ (.tail _ (.tail _ (.tail _ (.tail _ (.tail _ (.head _)))))))))))).trans ((put_there (nmem_ne hb (.tail _ (.tail _ (.tail _ (.tail _ (.tail _ (.tail _ (.tail _ (.tail _ (.head _))))))))))).trans ((put_there (nmem_ne hb (.tail _ (.tail _ (.tail _ (.tail _ (.tail _ (.tail _ (.tail _ (.head _)))))))))).trans ((put_there (nmem_ne hb (.tail _ (.tail _ (.tail _ (.tail _ (.tail _ (.tail _ (.head _))))))))).trans (m.off b hb))))))⟩
theorem exg_abs {B:Base} {R:Addr→Prop} {lo:∀ a,R a→B.h₁.get? a=none} {n:Nat} {env:Env} {ρ:List (Str × AV)} {σ:Sto} {t:Sem Flow} {Q:(Addr→Prop)→Sto→Prop} (P:Sto→Prop) (h:P σ) (k:∀ S,P S→ExG B R lo n env ρ S t Q):ExG B R lo n env ρ σ t Q:=k _ h
structure BSt (R₀:Addr→Prop) (σ₀:Sto) (R:Addr→Prop) (σ:Sto) (x dx:Addr) (kvs:List (PyData × AV)) (L:List (Addr × Mut)):Prop where
 I:Obj' R σ x 628 dx kvs
 g:Ldg R σ x dx L
 more:∀ b,R b↔R₀ b∨b∈L.map (·.1)
 new:∀ a∈L.map (·.1),¬R₀ a
 off:∀ b,R₀ b→b≠dx→σ b=σ₀ b
section
variable {R₀:Addr→Prop} {σ₀:Sto} {L:List (Addr × Mut)} {n:Nat} {env:Env} {ρ:List (Str × AV)} {st:Stmt} {rest:List Stmt} {P:(Addr→Prop)→Sto→Prop}
theorem bst_new {k:PyData} {m:Mut} (q:BSt R₀ σ₀ R σ x dx kvs L) (h1:NS (B.sys R lo) n env ρ σ (exec st env) (fun a=>put σ dx (.dict (kvs++[(k,.v (.ref a))]))) m)
  (h2:∀ a R' (lo':∀ a,R' a→B.h₁.get? a=none) σ',B.h₁.get? a=none→BSt R₀ σ₀ R' σ' x dx (kvs++[(k,.v (.ref a))]) (L++[(a,m)])→ExG B R' lo' n env ρ σ' (execs rest env) P):ExG B R lo n env ρ σ (execs (st::rest) env) P:=by
 refine exg_new h1 fun a na nr=>h2 a _ _ _ na ⟨q.I.add nr,q.g.add q.I.rd q.I.rx nr,fun b=>?_,fun b hb k=>?_,fun b hb n=>?_⟩
 ·rw [List.map_append,List.mem_append,q.more b,or_assoc]
  exact or_congr Iff.rfl (or_congr Iff.rfl List.mem_singleton.symm)
 ·rw [List.map_append] at hb
  rcases List.mem_append.mp hb with hb | hb
  exact q.new b hb k
  have e:b=a:=List.mem_singleton.mp hb
  exact nr (e▸(q.more b).mpr (.inl k))
 exact (put_there fun (e:b=a)=>nr (e▸(q.more b).mpr (.inl hb))).trans ((put_there n).trans (q.off b hb n))
theorem bst_set {k:PyData} {v:AV} (q:BSt R₀ σ₀ R σ x dx kvs L) (h1:Ex (B.sys R lo) n env ρ σ (exec st env) (.next ρ (put σ dx (.dict (kvs++[(k,v)])))))
  (h2:∀ σ',BSt R₀ σ₀ R σ' x dx (kvs++[(k,v)]) L→ExG B R lo n env ρ σ' (execs rest env) P):ExG B R lo n env ρ σ (execs (st::rest) env) P:=
 exg_step h1 (h2 _ ⟨q.I.upd,q.g.upd,q.more,q.new,fun b hb n=>(put_there n).trans (q.off b hb n)⟩)
end
theorem c_bankinit (hK:(KZ B.w.params).In B.h₁) (hsys:∀ a,B.h₁.get? a=none→(a == sysModules)=false) {x dx:Addr} (I:Obj' R σ x 628 dx []):FSG B R lo 3 116 [.v (.ref x)] σ (fun R' σ'=>∃ sn sw fn fa fr to ta ts td nb,BInit R σ x dx R' σ' sn sw fn fa fr to ta ts td nb):=by
 refine fsg_def (names:=["self"]) hK ?h_2
 case h_2=>
  intro env f
  change ExG _ _ _ _ _ [("self",_)] _ _ _
  have c:=cls_bank B.w
  have q0:BSt R σ R σ x dx [] []:=⟨I,⟨fun p hp=>by simp at hp,List.nodup_nil⟩,fun b=>(by simp),fun a ha=>(by simp at ha),fun b _u _u=>rfl⟩
  refine' bst_new q0 (m:=.list [.str "Bool",.str "Int",.str "Real"]) (ns_list hK c (evn_list ?e0 rfl) ?o0 q0.I rfl (by decide +kernel) (kvGet_off [] rfl (by decide +kernel)) (by k_is) (by simp) rfl) (fun sn R1 lo1 s1 na_sn (q1:BSt R σ R1 s1 x dx [(.str "sort_names",.v (.ref sn))] [(sn,.list [.str "Bool",.str "Int",.str "Real"])])=>?r0)
  case e0=>
   walk_at "3";exact ev_str;walk_at "3";exact ev_str;walk_at "3";exact ev_str;exact evd_nil;rfl;rfl;rfl
  case o0=>walk_at "n"
  case r0=>
  refine' bst_new q1 (m:=.list [.int 0,.int 0,.int 0]) (ns_list hK c (evn_list ?e1 rfl) ?o1 q1.I rfl (by decide +kernel) (kvGet_off [.str "sort_names"] rfl (by decide +kernel)) (by k_is) (by simp) rfl) (fun sw R2 lo2 s2 na_sw (q2:BSt R σ R2 s2 x dx [(.str "sort_names",.v (.ref sn)),(.str "sort_widths",.v (.ref sw))] [(sn,.list [.str "Bool",.str "Int",.str "Real"]),(sw,.list [.int 0,.int 0,.int 0])])=>?r1)
  case e1=>
   walk_at "3";exact ev_int;walk_at "3";exact ev_int;walk_at "3";exact ev_int;exact evd_nil;rfl;rfl;rfl
  case o1=>walk_at "n"
  case r1=>
  refine' bst_new q2 (m:=.list []) (ns_list hK c (evn_list ?e2 rfl) ?o2 q2.I rfl (by decide +kernel) (kvGet_off [.str "sort_names",.str "sort_widths"] rfl (by decide +kernel)) (by k_is) (by simp) rfl) (fun fn R3 lo3 s3 na_fn (q3:BSt R σ R3 s3 x dx [(.str "sort_names",.v (.ref sn)),(.str "sort_widths",.v (.ref sw)),(.str "fun_names",.v (.ref fn))] [(sn,.list [.str "Bool",.str "Int",.str "Real"]),(sw,.list [.int 0,.int 0,.int 0]),(fn,.list [])])=>?r2)
  case e2=>
   exact evd_nil
  case o2=>walk_at "n"
  case r2=>
  refine' bst_new q3 (m:=.list []) (ns_list hK c (evn_list ?e3 rfl) ?o3 q3.I rfl (by decide +kernel) (kvGet_off [.str "sort_names",.str "sort_widths",.str "fun_names"] rfl (by decide +kernel)) (by k_is) (by simp) rfl) (fun fa R4 lo4 s4 na_fa (q4:BSt R σ R4 s4 x dx [(.str "sort_names",.v (.ref sn)),(.str "sort_widths",.v (.ref sw)),(.str "fun_names",.v (.ref fn)),(.str "fun_args",.v (.ref fa))] [(sn,.list [.str "Bool",.str "Int",.str "Real"]),(sw,.list [.int 0,.int 0,.int 0]),(fn,.list []),(fa,.list [])])=>?r3)
  case e3=>
   exact evd_nil
  case o3=>walk_at "n"
  case r3=>
  refine' bst_new q4 (m:=.list []) (ns_list hK c (evn_list ?e4 rfl) ?o4 q4.I rfl (by decide +kernel) (kvGet_off [.str "sort_names",.str "sort_widths",.str "fun_names",.str "fun_args"] rfl (by decide +kernel)) (by k_is) (by simp) rfl) (fun fr R5 lo5 s5 na_fr (q5:BSt R σ R5 s5 x dx [(.str "sort_names",.v (.ref sn)),(.str "sort_widths",.v (.ref sw)),(.str "fun_names",.v (.ref fn)),(.str "fun_args",.v (.ref fa)),(.str "fun_results",.v (.ref fr))] [(sn,.list [.str "Bool",.str "Int",.str "Real"]),(sw,.list [.int 0,.int 0,.int 0]),(fn,.list []),(fa,.list []),(fr,.list [])])=>?r4)
  case e4=>
   exact evd_nil
  case o4=>walk_at "n"
  case r4=>
  refine' bst_set q5 ?e5 (fun s6 (q6:BSt R σ R5 s6 x dx [(.str "sort_names",.v (.ref sn)),(.str "sort_widths",.v (.ref sw)),(.str "fun_names",.v (.ref fn)),(.str "fun_args",.v (.ref fa)),(.str "fun_results",.v (.ref fr)),(.str "fresh_count",.d (.int 0))] [(sn,.list [.str "Bool",.str "Int",.str "Real"]),(sw,.list [.int 0,.int 0,.int 0]),(fn,.list []),(fa,.list []),(fr,.list [])])=>?r5)
  case e5=>
   with_reducible apply ex_setd hK c
   exact ev_int;walk_at "n";exact q5.I;rfl;decide +kernel;exact kvGet_off [.str "sort_names",.str "sort_widths",.str "fun_names",.str "fun_args",.str "fun_results"] rfl (by decide +kernel);k_is
   ·simp
   rfl
  case r5=>
  refine' bst_new q6 (m:=.list [.str ""]) (ns_list hK c (evn_list ?e6 rfl) ?o6 q6.I rfl (by decide +kernel) (kvGet_off [.str "sort_names",.str "sort_widths",.str "fun_names",.str "fun_args",.str "fun_results",.str "fresh_count"] rfl (by decide +kernel)) (by k_is) (by simp) rfl) (fun to R7 lo7 s7 na_to (q7:BSt R σ R7 s7 x dx [(.str "sort_names",.v (.ref sn)),(.str "sort_widths",.v (.ref sw)),(.str "fun_names",.v (.ref fn)),(.str "fun_args",.v (.ref fa)),(.str "fun_results",.v (.ref fr)),(.str "fresh_count",.d (.int 0)),(.str "term_ops",.v (.ref to))] [(sn,.list [.str "Bool",.str "Int",.str "Real"]),(sw,.list [.int 0,.int 0,.int 0]),(fn,.list []),(fa,.list []),(fr,.list []),(to,.list [.str ""])])=>?r6)
  case e6=>
   walk_at "3";exact ev_str;exact evd_nil;rfl
  case o6=>walk_at "n"
  case r6=>
  refine' bst_new q7 (m:=.list [.tuple []]) (ns_list hK c (evn_list ?e7 rfl) ?o7 q7.I rfl (by decide +kernel) (kvGet_off [.str "sort_names",.str "sort_widths",.str "fun_names",.str "fun_args",.str "fun_results",.str "fresh_count",.str "term_ops"] rfl (by decide +kernel)) (by k_is) (by simp) rfl) (fun ta R8 lo8 s8 na_ta (q8:BSt R σ R8 s8 x dx [(.str "sort_names",.v (.ref sn)),(.str "sort_widths",.v (.ref sw)),(.str "fun_names",.v (.ref fn)),(.str "fun_args",.v (.ref fa)),(.str "fun_results",.v (.ref fr)),(.str "fresh_count",.d (.int 0)),(.str "term_ops",.v (.ref to)),(.str "term_args",.v (.ref ta))] [(sn,.list [.str "Bool",.str "Int",.str "Real"]),(sw,.list [.int 0,.int 0,.int 0]),(fn,.list []),(fa,.list []),(fr,.list []),(to,.list [.str ""]),(ta,.list [.tuple []])])=>?r7)
  case e7=>
   walk_at "3";(with_reducible apply ev_tuple);exact evd_nil;rfl;exact evd_nil;rfl
  case o7=>walk_at "n"
  case r7=>
  refine' bst_new q8 (m:=.list [.int 0]) (ns_list hK c (evn_list ?e8 rfl) ?o8 q8.I rfl (by decide +kernel) (kvGet_off [.str "sort_names",.str "sort_widths",.str "fun_names",.str "fun_args",.str "fun_results",.str "fresh_count",.str "term_ops",.str "term_args"] rfl (by decide +kernel)) (by k_is) (by simp) rfl) (fun ts R9 lo9 s9 na_ts (q9:BSt R σ R9 s9 x dx [(.str "sort_names",.v (.ref sn)),(.str "sort_widths",.v (.ref sw)),(.str "fun_names",.v (.ref fn)),(.str "fun_args",.v (.ref fa)),(.str "fun_results",.v (.ref fr)),(.str "fresh_count",.d (.int 0)),(.str "term_ops",.v (.ref to)),(.str "term_args",.v (.ref ta)),(.str "term_sorts",.v (.ref ts))] [(sn,.list [.str "Bool",.str "Int",.str "Real"]),(sw,.list [.int 0,.int 0,.int 0]),(fn,.list []),(fa,.list []),(fr,.list []),(to,.list [.str ""]),(ta,.list [.tuple []]),(ts,.list [.int 0])])=>?r8)
  case e8=>
   walk_at "3";((with_reducible apply ev_globi);assumption;walk_at "f";rfl;k_is;decide);exact evd_nil;rfl
  case o8=>walk_at "n"
  case r8=>
  refine' bst_new q9 (m:=.list [.int 0]) (ns_list hK c (evn_list ?e9 rfl) ?o9 q9.I rfl (by decide +kernel) (kvGet_off [.str "sort_names",.str "sort_widths",.str "fun_names",.str "fun_args",.str "fun_results",.str "fresh_count",.str "term_ops",.str "term_args",.str "term_sorts"] rfl (by decide +kernel)) (by k_is) (by simp) rfl) (fun td R10 lo10 s10 na_td (q10:BSt R σ R10 s10 x dx [(.str "sort_names",.v (.ref sn)),(.str "sort_widths",.v (.ref sw)),(.str "fun_names",.v (.ref fn)),(.str "fun_args",.v (.ref fa)),(.str "fun_results",.v (.ref fr)),(.str "fresh_count",.d (.int 0)),(.str "term_ops",.v (.ref to)),(.str "term_args",.v (.ref ta)),(.str "term_sorts",.v (.ref ts)),(.str "term_datas",.v (.ref td))] [(sn,.list [.str "Bool",.str "Int",.str "Real"]),(sw,.list [.int 0,.int 0,.int 0]),(fn,.list []),(fa,.list []),(fr,.list []),(to,.list [.str ""]),(ta,.list [.tuple []]),(ts,.list [.int 0]),(td,.list [.int 0])])=>?r9)
  case e9=>
   walk_at "3";exact ev_int;exact evd_nil;rfl
  case o9=>walk_at "n"
  case r9=>
  refine' bst_new q10 (m:=.dict []) (ns_dict hK c ?o10 q10.I rfl (by decide +kernel) (kvGet_off [.str "sort_names",.str "sort_widths",.str "fun_names",.str "fun_args",.str "fun_results",.str "fresh_count",.str "term_ops",.str "term_args",.str "term_sorts",.str "term_datas"] rfl (by decide +kernel)) (by k_is) (by simp) rfl) (fun nb R11 lo11 s11 na_nb (q11:BSt R σ R11 s11 x dx [(.str "sort_names",.v (.ref sn)),(.str "sort_widths",.v (.ref sw)),(.str "fun_names",.v (.ref fn)),(.str "fun_args",.v (.ref fa)),(.str "fun_results",.v (.ref fr)),(.str "fresh_count",.d (.int 0)),(.str "term_ops",.v (.ref to)),(.str "term_args",.v (.ref ta)),(.str "term_sorts",.v (.ref ts)),(.str "term_datas",.v (.ref td)),(.str "numbers",.v (.ref nb))] [(sn,.list [.str "Bool",.str "Int",.str "Real"]),(sw,.list [.int 0,.int 0,.int 0]),(fn,.list []),(fa,.list []),(fr,.list []),(to,.list [.str ""]),(ta,.list [.tuple []]),(ts,.list [.int 0]),(td,.list [.int 0]),(nb,.dict [])])=>?r10)
  case o10=>walk_at "n"
  case r10=>
  have nd:[x,dx,sn,sw,fn,fa,fr,to,ta,ts,td,nb].Nodup:=q11.g.all q11.I.ne
  have nd7:[x,dx,to,ta,ts,td,nb].Nodup:=nd.sublist (by repeat (first | exact List.Sublist.refl _ | apply List.Sublist.cons_cons | apply List.Sublist.cons))
  have hsnb:=hsys nb na_nb
  have m11:BMid R11 s11 s11 x dx (kv11 sn sw fn fa fr to ta ts td nb) sn sw fn fa fr to ta ts td nb [.str ""] [.tuple []] [.int 0] [.int 0] []:=⟨q11.I,(q11.g.at_ (sn,_) (.head _)).2.1,(q11.g.at_ (sw,_) (.tail _ (.head _))).2.1,(q11.g.at_ (fn,_) (.tail _ (.tail _ (.head _)))).2.1,(q11.g.at_ (fa,_) (.tail _ (.tail _ (.tail _ (.head _))))).2.1,(q11.g.at_ (fr,_) (.tail _ (.tail _ (.tail _ (.tail _ (.head _)))))).2.1,(q11.g.at_ (to,_) (.tail _ (.tail _ (.tail _ (.tail _ (.tail _ (.head _))))))).2.1,(q11.g.at_ (ta,_) (.tail _ (.tail _ (.tail _ (.tail _ (.tail _ (.tail _ (.head _)))))))).2.1,(q11.g.at_ (ts,_) (.tail _ (.tail _ (.tail _ (.tail _ (.tail _ (.tail _ (.tail _ (.head _))))))))).2.1,(q11.g.at_ (td,_) (.tail _ (.tail _ (.tail _ (.tail _ (.tail _ (.tail _ (.tail _ (.tail _ (.head _)))))))))).2.1,(q11.g.at_ (nb,_) (.tail _ (.tail _ (.tail _ (.tail _ (.tail _ (.tail _ (.tail _ (.tail _ (.tail _ (.head _))))))))))).2.1,⟨(q11.g.at_ (sn,_) (.head _)).1,(q11.g.at_ (sw,_) (.tail _ (.head _))).1,(q11.g.at_ (fn,_) (.tail _ (.tail _ (.head _)))).1,(q11.g.at_ (fa,_) (.tail _ (.tail _ (.tail _ (.head _))))).1,(q11.g.at_ (fr,_) (.tail _ (.tail _ (.tail _ (.tail _ (.head _)))))).1,(q11.g.at_ (to,_) (.tail _ (.tail _ (.tail _ (.tail _ (.tail _ (.head _))))))).1,(q11.g.at_ (ta,_) (.tail _ (.tail _ (.tail _ (.tail _ (.tail _ (.tail _ (.head _)))))))).1,(q11.g.at_ (ts,_) (.tail _ (.tail _ (.tail _ (.tail _ (.tail _ (.tail _ (.tail _ (.head _))))))))).1,(q11.g.at_ (td,_) (.tail _ (.tail _ (.tail _ (.tail _ (.tail _ (.tail _ (.tail _ (.tail _ (.head _)))))))))).1,(q11.g.at_ (nb,_) (.tail _ (.tail _ (.tail _ (.tail _ (.tail _ (.tail _ (.tail _ (.tail _ (.tail _ (.head _))))))))))).1⟩,fun _u _u=>rfl⟩
  have mk1:=c_makeG (lo:=lo11) hK m11.I rfl (kvGet_idx (ks:=keys11) rfl (by decide +kernel) (i:=10) rfl) (kvGet_idx (ks:=keys11) rfl (by decide +kernel) (i:=6) rfl) (kvGet_idx (ks:=keys11) rfl (by decide +kernel) (i:=7) rfl) (kvGet_idx (ks:=keys11) rfl (by decide +kernel) (i:=8) rfl) (kvGet_idx (ks:=keys11) rfl (by decide +kernel) (i:=9) rfl) m11.r.r_nb m11.r.r_to m11.r.r_ta m11.r.r_ts m11.r.r_td m11.g_nb m11.g_to m11.g_ta m11.g_ts m11.g_td nd7 hsnb (t:=⟨"true",[],0,0⟩) (by decide +kernel) (by decide +kernel) (by decide) (by decide) (by decide) (by decide) (by decide) (by decide)
  have J1:=m11.mid nd (l1:=[.str "",.str "true"]) (l2:=[.tuple [],.tuple []]) (l3:=[.int 0,.int 0]) (l4:=[.int 0,.int 0]) (nn:=(numsFrom 1 [⟨"true",[],0,0⟩]))
  with_reducible apply exg_step
  ·with_reducible apply ex_setd hK c
   ·with_reducible apply ev_is2 (b:=.d (.int 1)) (σ'':=(put (put (put (put (put s11 to (.list [.str "",.str "true"])) ta (.list [.tuple [],.tuple []])) ts (.list [.int 0,.int 0])) td (.list [.int 0,.int 0])) nb (.dict (numsFrom 1 [⟨"true",[],0,0⟩]))))
    (with_reducible apply ev_methd);assumption;walk_at "n";exact m11.I;rfl;exact kvGet_off keys11 rfl (by decide +kernel);k_is;k_is;k_is;k_is;rfl;walk_at "1";exact ev_str;walk_at "1";(with_reducible apply ev_tuple);exact evd_nil;rfl;walk_at "1";((with_reducible apply ev_globi);assumption;walk_at "f";rfl;k_is;decide);walk_at "1";exact ev_int;exact evs_nil;rfl;rfl;rfl;rfl;exact mk1;walk_at "k";rfl;rfl;rfl;rfl
   walk_at "n";exact J1;rfl;decide +kernel;exact kvGet_off keys11 rfl (by decide +kernel);k_is
   ·simp
   rfl
  refine exg_abs (fun S=>BMid R11 s11 S x dx (kv11 sn sw fn fa fr to ta ts td nb++[(.str "true_number",.d (.int 1))]) sn sw fn fa fr to ta ts td nb [.str "",.str "true"] [.tuple [],.tuple []] [.int 0,.int 0] [.int 0,.int 0] (numsFrom 1 [⟨"true",[],0,0⟩])) (m11.step nd) fun S12 m12=>?_
  have mk2:=c_makeG (lo:=lo11) hK m12.I rfl (kvGet_idx (ks:=keys11++[.str "true_number"]) rfl (by decide +kernel) (i:=10) rfl) (kvGet_idx (ks:=keys11++[.str "true_number"]) rfl (by decide +kernel) (i:=6) rfl) (kvGet_idx (ks:=keys11++[.str "true_number"]) rfl (by decide +kernel) (i:=7) rfl) (kvGet_idx (ks:=keys11++[.str "true_number"]) rfl (by decide +kernel) (i:=8) rfl) (kvGet_idx (ks:=keys11++[.str "true_number"]) rfl (by decide +kernel) (i:=9) rfl) m12.r.r_nb m12.r.r_to m12.r.r_ta m12.r.r_ts m12.r.r_td m12.g_nb m12.g_to m12.g_ta m12.g_ts m12.g_td nd7 hsnb (t:=⟨"false",[],0,0⟩) (by decide +kernel) (by decide +kernel) (by decide) (by decide) (by decide) (by decide) (by decide) (by decide)
  have J2:=m12.mid nd (l1:=[.str "",.str "true",.str "false"]) (l2:=[.tuple [],.tuple [],.tuple []]) (l3:=[.int 0,.int 0,.int 0]) (l4:=[.int 0,.int 0,.int 0]) (nn:=(numsFrom 1 (T3.drop 1)))
  with_reducible apply exg_step
  ·with_reducible apply ex_setd hK c
   ·with_reducible apply ev_is2 (b:=.d (.int 2)) (σ'':=(put (put (put (put (put S12 to (.list [.str "",.str "true",.str "false"])) ta (.list [.tuple [],.tuple [],.tuple []])) ts (.list [.int 0,.int 0,.int 0])) td (.list [.int 0,.int 0,.int 0])) nb (.dict (numsFrom 1 (T3.drop 1)))))
    (with_reducible apply ev_methd);assumption;walk_at "n";exact m12.I;rfl;exact kvGet_off (keys11++[.str "true_number"]) rfl (by decide +kernel);k_is;k_is;k_is;k_is;rfl;walk_at "1";exact ev_str;walk_at "1";(with_reducible apply ev_tuple);exact evd_nil;rfl;walk_at "1";((with_reducible apply ev_globi);assumption;walk_at "f";rfl;k_is;decide);walk_at "1";exact ev_int;exact evs_nil;rfl;rfl;rfl;rfl;exact mk2;walk_at "k";rfl;rfl;rfl;rfl
   walk_at "n";exact J2;rfl;decide +kernel;exact kvGet_off (keys11++[.str "true_number"]) rfl (by decide +kernel);k_is
   ·simp
   rfl
  refine exg_abs (fun S=>BMid R11 s11 S x dx (kv11 sn sw fn fa fr to ta ts td nb++[(.str "true_number",.d (.int 1))]++[(.str "false_number",.d (.int 2))]) sn sw fn fa fr to ta ts td nb [.str "",.str "true",.str "false"] [.tuple [],.tuple [],.tuple []] [.int 0,.int 0,.int 0] [.int 0,.int 0,.int 0] (numsFrom 1 (T3.drop 1))) (m12.step nd) fun S13 m13=>?_
  apply exg_nil
  exact ⟨sn,sw,fn,fa,fr,to,ta,ts,td,nb,nd,q11.more,q11.new,m13.I.ex.trans I.ex.symm,m13.I.ed,m13.g_sn,m13.g_sw,m13.g_fn,m13.g_fa,m13.g_fr,m13.g_to,m13.g_ta,m13.g_ts,m13.g_td,m13.g_nb,fun b hb hbd=>(m13.off b fun hm=>(List.mem_cons.mp hm).elim hbd fun hm=>q11.new b hm hb).trans (q11.off b hb hbd)⟩
end
section
theorem Rm.make {A:Around} {n:Nat} {C:Addr} {vals:List Value} (r:Rm A (n+1)):Rm (A.under (.builtin "type.__call__" ⟨.ref C::vals,[]⟩)) n:=
 ⟨r.h,by have:=r.d;rw [depth_under_make];walk_at "o",by have:=r.u;rw [units_under_make];walk_at "o"⟩
section
variable {B:Base} {R:Addr→Prop} {lo:∀ a,R a→B.h₁.get? a=none} {K:Frag} {V:Addr→Prop} {A:Around} {s:Shared} {vs:List Value} {Q:Value→Shared→Prop} {E:Value→Shared→Prop} {σ:Sto} {as:List AV} {n:Nat}
theorem gone_lo (bs:Bs (B.sys R lo) s.heap) {a:Addr} (h:s.heap.get? a=none):B.h₁.get? a=none:=by
 cases e:B.h₁.get? a with
 | none=>rfl
 | some o=>have:=bs a o e;rw [h] at this;cases this
theorem gone_R (vk:VOk (B.sys R lo) V s.heap) {a:Addr} (h:s.heap.get? a=none):¬R a:=fun k=>by obtain ⟨o,e⟩:=(vk.2 a (vk.1 a k)).2;rw [h] at e;cases e
theorem make_newG (hK:K.In B.h₁) {C fI:Addr} (hm:makesIn K C=true) (hi:findIn K (.ref C) "__init__"=some (some (.ref fI))) (hf:isFn K (.ref fI)=true) {P:Addr→Addr→(Addr→Prop)→Sto→Prop}
  (hc:∀ x dx (nx:B.h₁.get? x=none) (nd:B.h₁.get? dx=none),¬R x→¬R dx→x≠dx→FSG B (fun b=>(R b∨b=dx)∨b=x) (lo_more (lo_more lo nd) nx) n fI (.v (.ref x)::as) (put (put σ dx (.dict [])) x (.raw ⟨.ref C,some dx,.plain,#[]⟩)) (P x dx))
  (rm:Rn A (n+1) s.toks) (bs:Bs (B.sys R lo) s.heap) (vk:VOk (B.sys R lo) V s.heap) (wd:WdOf B.w R V s.heap σ) (r:VRs V s.heap vs as)
  (h:∀ x dx R' (lo':∀ a,R' a→B.h₁.get? a=none) σ' h' tk,s.heap.get? x=none→s.heap.get? dx=none→R' x→R' dx→P x dx R' σ'→(∀ b,R b→R' b)→(∀ b,R' b→R b∨s.heap.get? b=none)→Grow R s.heap h'→Bs (B.sys R' lo') h'→VOk (B.sys R' lo') (fun b=>V b∨R' b) h'→WdOf B.w R' (fun b=>V b∨R' b) h' σ'→Q (.ref x) { s with heap:=h',toks:=tk }) :
  wpAny (model B.prog B.w) A (call (.ref C) vs) Q E s:=by
 have n1:s.heap.get? s.heap.objs.size=none:=none_size _ (Nat.le_refl _)
 have n2:s.heap.get? (s.heap.objs.size+1)=none:=none_size _ (Nat.le_succ _)
 have l1:=gone_lo bs n1
 have l2:=gone_lo bs n2
 have r1:=gone_R vk n1
 have r2:=gone_R vk n2
 obtain ⟨hh,g,d,t,os⟩:=s
 dsimp only at n1 n2 l1 l2 r1 r2 bs vk wd r h
 have X:K.In hh:=hK.keeps bs
 refine wpAny_call (make_core (makes_of X hm) (looks_findIn X hi) (fun self=>bind_fn X self (beq_iff_eq.mp hf)) (.inl rfl) ?_)
 have g0:Grow (fun _u=>False) hh ((hh.push emptyDict).push (instObj C hh.objs.size)):=(Grow.push _ _).trans (Grow.push _ _)
 have e1:((hh.push emptyDict).push (instObj C hh.objs.size)).get? hh.objs.size=some emptyDict:=Heap.get?_push_of_some _ (Heap.get?_push_size _ rfl)
 have e2:((hh.push emptyDict).push (instObj C hh.objs.size)).get? (hh.objs.size+1)=some (instObj C hh.objs.size):=by
  have:=Heap.get?_push_size (hh.push emptyDict) (o:=instObj C hh.objs.size) rfl
  rwa [Heap.size_push] at this
 have ne:hh.objs.size+1≠hh.objs.size:=Nat.succ_ne_self _
 refine hc (hh.objs.size+1) hh.objs.size l2 l1 r2 r1 ne (fun b=>(V b∨b=hh.objs.size)∨b=hh.objs.size+1) _ _ _ _ ⟨rm.toRm.make,rm.pos⟩ (fun a o e=>g0 a o (bs a o e) id) ⟨fun a k=>?_,fun a k=>?_⟩ (fun b k=>?_) (.cons rfl ((VRs.to r ?_).grow g0 fun _u k=>k.elim)) ?_
 exact k.imp (fun k=>k.imp (vk.1 a) id) id
 ·rcases k with (k | rfl) | rfl
  exact ⟨(vk.2 a k).1,let ⟨o,e⟩:=(vk.2 a k).2;⟨o,g0 _ _ e id⟩⟩;exact ⟨l1,_,e1⟩;exact ⟨l2,_,e2⟩
 ·by_cases h1:b=hh.objs.size+1
  ·subst h1;exact ⟨_,put_here,e2⟩
  by_cases h2:b=hh.objs.size
  ·subst h2;exact ⟨_,(put_there h1).trans put_here,⟨⟨#[],0,e1,.nil⟩,⟨fun _u hp=>(by simp at hp),List.nodup_nil⟩⟩⟩
  have kR:R b:=k.elim (fun k=>k.resolve_right h2) fun k=>absurd k h1
  obtain ⟨m,e,q⟩:=wd b kR
  refine ⟨m,(put_there h1).trans ((put_there h2).trans e),(q.to fun a k=>?_).grow g0 (fun _u k=>k.elim) id⟩
  rcases k with (k | rfl) | rfl
  exact .inl k;exact .inr n1;exact .inr n2
 ·intro a k
  rcases k with (k | rfl) | rfl
  exact .inl k;exact .inr n1;exact .inr n2
 intro R' lo' σ' h' tk p up fr gr bs' vk' wd'
 have ev:(fun b=>((V b∨b=hh.objs.size)∨b=hh.objs.size+1)∨R' b)=fun b=>V b∨R' b:=funext fun b=>propext ⟨fun k=>k.elim (fun k=>k.elim (fun k=>k.elim .inl fun e=>.inr (up b (.inl (.inr e)))) fun e=>.inr (up b (.inr e))) .inr,fun k=>k.elim (fun k=>.inl (.inl (.inl k))) .inr⟩
 rw [ev] at vk' wd'
 have gone:∀ b,((hh.push emptyDict).push (instObj C hh.objs.size)).get? b=none→hh.get? b=none:=fun b hb=>by
  cases e:hh.get? b with
  | none=>rfl
  | some o=>have:=g0 b o e id;rw [hb] at this;cases this
 refine ⟨rfl,h (hh.objs.size+1) hh.objs.size R' lo' σ' h' tk n2 n1 (up _ (.inr rfl)) (up _ (.inl (.inr rfl))) p (fun b k=>up b (.inl (.inl k))) (fun b k=>?_) ?_ bs' vk' wd'⟩
 ·rcases fr b k with ((k | rfl) | rfl) | k
  exact .inl k;exact .inr n1;exact .inr n2;exact .inr (gone b k)
 refine Grow.drop (X:=fun b=>(R b∨b=hh.objs.size)∨b=hh.objs.size+1) (g0.none.trans gr) fun b k=>?_
 rcases k with (k | rfl) | rfl
 exact .inl k;exact .inr n1;exact .inr n2
end
end
section
inductive PRs (V:Addr→Prop) (h:Heap):List (Value × Value)→List (PyData × AV)→Prop
 | nil:PRs V h [] []
 | cons {k v:Value} {vs:List (Value × Value)} {d:PyData} {a:AV} {kvs:List (PyData × AV)}:Rd V h k d→VR V h v a→PRs V h vs kvs→PRs V h ((k,v)::vs) ((d,a)::kvs)
theorem PRs.grow {V X:Addr→Prop} {h h':Heap} {vs:List (Value × Value)} {kvs:List (PyData × AV)} (r:PRs V h vs kvs) (g:Grow X h h') (xv:∀ a,X a→V a):PRs V h' vs kvs:=by
 induction r with
 | nil=>exact .nil
 | cons a b _ ih=>exact .cons (a.grow g xv) (b.grow g xv) ih
noncomputable def EvP (S:Sys) (n:Nat) (env:Env) (ρ:List (Str × AV)) (σ:Sto) (ks:List (Option Expr)) (vs:List Expr) (pos:Pos) (kvs:List (PyData × AV)) (σ':Sto):Prop:=
 Do S n env ρ σ (evalPairs (pairTrees ks vs env pos)) (fun V h l=>PRs V h l kvs) σ'
section
variable {S:Sys} {n:Nat} {env:Env} {ρ ρ₁:List (Str × AV)} {σ σ₁ σ₂ σ₃:Sto}
theorem evp_nil {pos:Pos}:EvP S n env ρ σ [] [] pos [] σ:=.mk fun V A s Q E rm q h=>pairTrees_nil_walk (h _ s.heap s.toks (Grow.refl _ _) q .nil)
theorem evp_cons {k v:Expr} {ks:List (Option Expr)} {vs:List Expr} {pos:Pos} {d:PyData} {a:AV} {kvs:List (PyData × AV)} (h1:Ev S n env ρ σ (eval k env) (.d d) σ₁) (h2:Ev S n env ρ σ₁ (eval v env) a σ₂) (h3:EvP S n env ρ σ₂ ks vs pos kvs σ₃) :
  EvP S n env ρ σ (some k::ks) (v::vs) pos ((d,a)::kvs) σ₃:=.mk fun V A s Q E rm q h=>
 pairTrees_cons_walk (wpAny_pos rm.pos (h1.run V A s _ E rm q fun kv ha ta ga qa ra pa=>wpAny_pos pa (h2.run V A _ _ E (rm.at pa) qa fun vv hb tb gb qb rb pb=>h3.run V A _ _ E (rm.at pb) qb fun l hc tc gc qc rc=>
  h _ hc tc ((ga.trans gb).trans gc) qc (.cons ((Rd.grow gb qa.vok.1 ra).grow gc qb.vok.1) (rb.grow gc qb.vok.1) rc))))
end
section
variable {prog:Program} {w:World} {A:Around} {E:Value→Shared→Prop} {V:Addr→Prop} {d:Addr}
theorem dict_store {s:Shared} {kvs:List (PyData × AV)} {k:PyData} {kv u:Value} {av:AV} {Q:Unit→Shared→Prop} (hu:A.units+16<cLine) (D:DAt w V s.heap d kvs) (hk:KOk kvs) (h6:KeyD 6 k) (rk:Rd V s.heap kv k) (ru:VR V s.heap u av) (hV:V d) (hz:kvs.length≤100000)
  (h:∀ h' tk,DAt w V h' d (kvSet kvs k av)→Heap.SameBut d s.heap h'→Q () { s with heap:=h',toks:=tk }):wpAny (model prog w) A (dictSet d kv u) Q E s:=by
 have T:=D.typeIs
 obtain ⟨es,ep,e,hr⟩:=D
 have hz:es.size≤100000:=by rw [← Array.length_toList,hr.length];exact hz
 unfold dictSet
 try with_reducible refine wpAny_holding ?_
 refine wpAny_bind (hash_key h6 (by walk_at "o") rk fun tk=>?_)
 unfold dictSetHashed
 try with_reducible refine wpAny_holding ?_
 have xv:∀ a,a=d→V a:=fun a e=>e▸hV
 refine wpAny_bind (dict_find (s:={ s with toks:=tk }) hu e rfl hr hk h6 rk ?_)
 cases hj:keyAt kvs k with
 | none=>
  refine wpAny_bind (wpAny_rule (wpAny_updateDictKeys (hz:=by have:(100000:Nat)≤sizeLine:=(by decide);walk_at "o") (s:={ s with toks:=tk }) e rfl (h _ tk ?_ (Heap.SameBut.update ..))))
  have g:Grow (fun a=>a=d) s.heap (s.heap.update d (Obj.mapDictKeys fun x=>x.push ⟨hashD w k,kv,u⟩)):=Grow.same (Heap.SameBut.update ..) rfl
  refine ⟨es.push ⟨hashD w k,kv,u⟩,ep+1,Heap.get?_update_self _ e (by rfl),?_⟩
  rw [kvSet_none hj,Array.toList_push]
  exact (hr.grow g xv).set_new (Rd.grow g xv rk) rfl (ru.grow g xv)
 | some i=>
  refine wpAny_bind (wpAny_rule (wpAny_bind (wpAny_updateDict (s:={ s with toks:=tk }) e rfl (wpAny_point (h _ tk ?_ (Heap.SameBut.update ..))))))
  have g:Grow (fun a=>a=d) s.heap (s.heap.update d (Obj.mapDict fun x=>x.modify i fun e=>{ e with val:=u })):=Grow.same (Heap.SameBut.update ..) rfl
  refine ⟨es.modify i fun e=>{ e with val:=u },ep,Heap.get?_update_self _ e (by rfl),?_⟩
  rw [kvSet_some hj,Array.toList_modify]
  exact (hr.grow g xv).set_old (ru.grow g xv) i
@[reducible] noncomputable def kvAll (kvs acc:List (PyData × AV)):List (PyData × AV):=kvs.foldl (fun acc p=>kvSet acc p.1 p.2) acc
theorem store_all (hu:A.units+16<cLine) (hV:V d):∀ (vs:List (Value × Value)) (kvs acc:List (PyData × AV)) (s:Shared) (Q:PUnit→Shared→Prop),PRs V s.heap vs kvs→DAt w V s.heap d acc→KOk acc→(∀ p∈kvs,KeyD 6 p.1)→acc.length+kvs.length≤100000 →
  (∀ h' tk,DAt w V h' d (kvAll kvs acc)→KOk (kvAll kvs acc)→Grow (fun b=>b=d) s.heap h'→Q () { s with heap:=h',toks:=tk })→wpAny (model prog w) A (storeAll d vs) Q E s
 | _,_,acc,s,Q,.nil,D,kk,h6,hz,h=>by
  show wpAny _ A (forIn [] _ _) _ _ _
  rw [List.forIn_nil]
  exact wpAny_pure (h s.heap s.toks D kk (Grow.refl _ _))
 | _,_,acc,s,Q,.cons (k:=k) (v:=v) (vs:=vs) (d:=dk) (a:=a) (kvs:=kvs) rk rv r,D,kk,h6,hz,h=>by
  show wpAny _ A (forIn ((k,v)::vs) _ _) _ _ _
  rw [List.forIn_cons]
  rw [List.length_cons] at hz
  have xv:∀ b,b=d→V b:=fun b e=>e▸hV
  refine wpAny_bind (wpAny_bind (dict_store hu D kk (h6 _ (.head _)) rk rv hV (by walk_at "o") fun h' tk D' sb=>wpAny_pure ?_))
  have g:Grow (fun b=>b=d) s.heap h':=Grow.same sb rfl
  have:=kvSet_len (kvs:=acc) (k:=dk) (v:=a)
  exact store_all hu hV vs kvs (kvSet acc dk a) { s with heap:=h',toks:=tk } Q (r.grow g xv) D' (kk.set (h6 _ (.head _))) (fun p hp=>h6 p (.tail _ hp)) (by walk_at "o") fun h'' tk' D'' kk' g'=>h h'' tk' D'' kk' (g.trans g')
end
section
variable {B:Base} {R:Addr→Prop} {lo:∀ a,R a→B.h₁.get? a=none} {n:Nat} {env:Env} {ρ ρ₁:List (Str × AV)} {σ σ₁:Sto} {nm:List (Str × NameKind)}
theorem nm_disp {x:Str} {ks:List (Option Expr)} {vs:List Expr} {p pos' pos:Pos} {kvs:List (PyData × AV)} (f:Fn env nm) (hb:Binds env x) (h1:EvP (B.sys R lo) n env ρ σ ks vs p kvs σ₁) (h6:∀ q∈kvs,KeyD 6 q.1)
  (hz:kvs.length≤1000) (hall:ks.all (·.isSome)=true) (hl:ks.length=vs.length) (h0:ks≠[]) (hlen:ks.length≤15) (hs:swapsWith (.Dict ks vs p) (some (.Name x pos')) pos.line env=pure false) :
  NM (B.sys R lo) n env ρ σ (exec (.Assign [.Name x pos'] (.Dict ks vs p) pos) env) x (.dict (kvAll kvs [])) σ₁:=by
 intro V A s Q E rm q h
 refine wpAny_Assign_Name (wpAny_Dict_any hall hl h0 hlen ?_) hs
 have fr:s.heap.get? s.heap.objs.size=none:=none_size _ (Nat.le_refl _)
 have nR:¬R s.heap.objs.size:=gone_R q.vok fr
 have off:¬Own env s.heap.objs.size:=fun k=>by obtain ⟨_,o,e⟩:=q.ownLt k;rw [fr] at e;cases e
 have q0:View (B.sys R lo) (fun b=>V b∨b=s.heap.objs.size) env (s.heap.push { cls:=.type "dict",data:=.dict #[] }) ρ σ:=q.wide (Grow.push _ _) (fun _u k=>.inl k) fun b k=>k.imp id fun k=>by subst k;exact ⟨fr,_,Heap.get?_push_size _ rfl⟩
 refine wpAny_pos rm.pos (h1.run _ A _ _ E rm q0 fun l h' tk g q1 r p1=>?_)
 have ed:=g _ _ (Heap.get?_push_size s.heap (o:={ cls:=.type "dict",data:=.dict #[] }) rfl) nR
 refine store_all (V:=fun b=>V b∨b=s.heap.objs.size) (w:=B.w) (by have:=rm.units;walk_at "o") (.inr rfl) l kvs [] { s with heap:=h',toks:=tk } _ r ⟨#[],0,ed,.nil⟩ ⟨fun _u hp=>(by simp at hp),List.nodup_nil⟩ h6 (by simpa using Nat.le_trans hz (by decide)) fun h2 tk2 D kk g2=>?_
 have xv:∀ b,b=s.heap.objs.size→V b∨b=s.heap.objs.size:=fun b e=>.inr e
 have ex:∀ b,b=s.heap.objs.size→∃ o,h2.get? b=some o:=fun b e=>by subst e;obtain ⟨_,_,e,_⟩:=D;exact ⟨_,e⟩
 have q2:View (B.sys R lo) (fun b=>V b∨b=s.heap.objs.size) env h2 ρ σ₁:=q1.grow g2 ex xv (fun e=>off (.inl e.symm)) (fun y c e e'=>off (.inr ⟨y,e'▸e⟩)) ((B.sys R lo).grow q1.wd g2 xv fun b e k=>nR (e▸k))
 refine bind_step (a:=.v (.ref s.heap.objs.size)) f hb up_upd q2 rfl fun h3 tk3 g3 q3=>?_
 have ownV:∀ b,Own env b→V b∨b=s.heap.objs.size:=fun b k=>.inl (q.ownLt k).1
 refine h _ h3 tk3 fr ?_ (fun ρ₁ hu=>q3.sub (upd_up hu)) (MAt.grow ⟨D,kk⟩ g3 ownV off)
 refine Grow.drop (X:=fun b=>(R b∨Own env b)∨b=s.heap.objs.size) ((((Grow.push _ _).none.trans (g.mono fun b k=>.inl (.inl k))).trans (g2.mono fun b k=>.inr k)).trans (g3.mono fun b k=>.inl (.inr k))) fun b k=>k.imp id fun e=>by rw [e];exact fr
end
structure ExT (B:Base) (R:Addr→Prop) (lo:∀ a,R a→B.h₁.get? a=none) (n:Nat) (env:Env) (ρ:List (Str × AV)) (σ:Sto) (t:Sem Flow) (c:Bool):Prop where
 run:∀ (V:Addr→Prop) (A:Around) (s:Shared) (Q:Flow→Shared→Prop) (E:Value→Shared→Prop),Rn A n s.toks→View (B.sys R lo) V env s.heap ρ σ →
  (∀ h' tk,Grow (fun b=>R b∨Own env b) s.heap h'→Q (.ret (.bool c)) { s with heap:=h',toks:=tk })→wpAny (model B.prog B.w) A t Q E s
section
variable {B:Base} {R:Addr→Prop} {lo:∀ a,R a→B.h₁.get? a=none} {n:Nat} {env:Env} {ρ ρ₁:List (Str × AV)} {σ σ₁:Sto} {nm:List (Str × NameKind)} {c:Bool} {st:Stmt} {rest:List Stmt}
theorem ext_ret {t:Sem Flow} (h1:Ex (B.sys R lo) n env ρ σ t (.ret (.d (.bool c)) σ₁)):ExT B R lo n env ρ σ t c:=.mk fun V A s Q E rm q h=>
 h1.run V A s Q E rm q fun f h' tk g r=>by
  obtain ⟨v,rfl,rv,_⟩:=r
  obtain rfl:=Rd.ofBool rv
  exact h h' tk g
theorem ext_step (h1:Ex (B.sys R lo) n env ρ σ (exec st env) (.next ρ₁ σ₁)) (h2:ExT B R lo n env ρ₁ σ₁ (execs rest env) c):ExT B R lo n env ρ σ (execs (st::rest) env) c:=.mk fun V A s Q E rm q h=>by
 refine wpAny_execs_cons (wpAny_pos rm.pos (h1.run V A s _ E rm q fun f h' tk g r p1=>?_))
 obtain ⟨rfl,q1⟩:=r
 exact h2.run V A _ Q E (rm.at p1) q1 fun h'' tk' g'=>h h'' tk' (g.trans g')
theorem ext_new {x:Str} {m:Mut} (h1:NM (B.sys R lo) n env ρ σ (exec st env) x m σ₁)
  (h2:∀ a (na:B.h₁.get? a=none) (nR:¬R a),∃ ρ₁,Upd x (.v (.ref a)) ρ ρ₁∧ExT B (fun b=>R b∨b=a) (lo_more lo na) n env ρ₁ (put σ₁ a m) (execs rest env) c):ExT B R lo n env ρ σ (execs (st::rest) env) c:=.mk fun V A s Q E rm q h=>by
 refine wpAny_execs_cons (wpAny_pos rm.pos (h1 V A s _ E rm q fun a h' tk hn g q1 hm p1=>?_))
 have nR:¬R a:=gone_R q.vok hn
 have nO:¬Own env a:=fun k=>by obtain ⟨_,o,e⟩:=q.ownLt k;rw [hn] at e;cases e
 have na:B.h₁.get? a=none:=gone_lo q.base hn
 obtain ⟨ρ₁,hu,h2⟩:=h2 a na nR
 refine h2.run _ A _ Q E (rm.at p1) ((q1 ρ₁ hu).widen na nR nO (.inr rfl) hm) fun h'' tk' g'=>h h'' tk' ?_
 refine ((g.mono (Y:=fun b=>(R b∨Own env b)∨b=a) fun b k=>.inl k).trans (g'.mono fun b k=>?_)).drop fun b k=>?_
 ·rcases k with (k | k) | k
  exact .inl (.inl k);exact .inr k;exact .inl (.inr k)
 rcases k with k | k
 exact .inl k;exact .inr (k▸hn)
theorem View.grown {V R':Addr→Prop} {lo':∀ a,R' a→B.h₁.get? a=none} {h h':Heap} {σ':Sto} (q:View (B.sys R lo) V env h ρ σ) (up:∀ b,R b→R' b) (fr:∀ b,R' b→R b∨h.get? b=none) (g:Grow R h h') (bs:Bs (B.sys R' lo') h') (vk:VOk (B.sys R' lo') (fun b=>V b∨R' b) h') (wd:WdOf B.w R' (fun b=>V b∨R' b) h' σ') :
  View (B.sys R' lo') (fun b=>V b∨R' b) env h' ρ σ':=by
 have to:∀ b,(V b∨R' b)→V b∨h.get? b=none:=fun b k=>k.elim .inl fun k=>(fr b k).imp (q.vok.1 b) id
 have xv:∀ b,R b→V b∨R' b:=fun b k=>.inr (up b k)
 have nO:∀ b,Own env b→¬R' b:=fun b k k'=>by
  rcases fr b k' with k' | e
  ·exact k.elim (fun e=>q.own.2 (e▸k')) fun ⟨y,e⟩=>(q.ownC y b e).2.1 k'
  obtain ⟨_,o,e'⟩:=q.ownLt k;rw [e] at e';cases e'
 have nR:∀ b,Own env b→¬R b:=fun b k k'=>nO b k (up b k')
 obtain ⟨m,hn,hv⟩:=q.fr
 refine ⟨bs,vk,⟨m,ns_grow hn g (nR _ (.inl rfl)),fun p hp=>?_⟩,fun x c e=>?_,q.apart,⟨.inl q.own.1,nO _ (.inl rfl)⟩,fun x c e=>⟨.inl (q.ownC x c e).1,nO _ (.inr ⟨x,e⟩),(q.ownC x c e).2.2⟩,wd⟩
 ·obtain ⟨v,r,k⟩:=hv p hp
  exact ⟨v,(r.to to).grow g xv,k.imp (fun k=>k) fun ⟨k1,c,k2,k3⟩=>⟨k1,c,k2,cell_grow k3 g (nR _ (.inr ⟨_,k2⟩))⟩⟩
 obtain ⟨v,k⟩:=q.cl x c e
 exact ⟨v,cell_grow k g (nR _ (.inr ⟨_,e⟩))⟩
theorem ext_cls {K:Frag} (hK:K.In B.h₁) {C fI:Addr} {m:Nat} {x id:Str} {p pos' pos pos2:Pos} {args:List Expr} {as:List AV} {P:Addr→Addr→(Addr→Prop)→Sto→Prop} (f:Fn env nm) (hb:Binds env x)
  (h0:Ev (B.sys R lo) n env ρ σ (eval (.Name id p) env) (.v (.ref C)) σ) (h1:Evs (B.sys R lo) n env ρ σ (spliced (backTo pos (starEach args env))) as σ)
  (hkp:keepIn K (.ref C)=true) (hm:makesIn K C=true) (hi:findIn K (.ref C) "__init__"=some (some (.ref fI))) (hf:isFn K (.ref fI)=true)
  (hc:∀ x dx (nx:B.h₁.get? x=none) (nd:B.h₁.get? dx=none),¬R x→¬R dx→x≠dx→FSG B (fun b=>(R b∨b=dx)∨b=x) (lo_more (lo_more lo nd) nx) m fI (.v (.ref x)::as) (put (put σ dx (.dict [])) x (.raw ⟨.ref C,some dx,.plain,#[]⟩)) (P x dx)) (hn:m+1≤n)
  (h2:∀ a dx R' (lo':∀ a,R' a→B.h₁.get? a=none) σ',P a dx R' σ'→(∀ b,R b→R' b)→R' a→R' dx→¬R a→¬R dx→∃ ρ₁,Upd x (.v (.ref a)) ρ ρ₁∧ExT B R' lo' n env ρ₁ σ' (execs rest env) c)
  (hs:(starEach args env).all (fun p=>!p.1)=true:=by rfl) (hs':((backTo pos (starEach args env)).any (·.1)||([]:List (Option Str × Sem Value)).any (·.1.isNone))=false:=by rfl)
  (hsw:swapsWith (.Call (.Name id p) args [] pos) (some (.Name x pos')) pos2.line env=pure false:=by rfl) :
  ExT B R lo n env ρ σ (execs (.Assign [.Name x pos'] (.Call (.Name id p) args [] pos) pos2::rest) env) c:=.mk fun V A s Q E rm q h=>by
 refine wpAny_execs_cons (wpAny_Assign_Name (wpAny_Call_Name_kw (wpAny_pos rm.pos (h0.run V A s _ E rm q fun v ha ta ga qa ra pa=>?_))) hsw)
 have ra:_=_:=ra
 subst ra
 refine callWith_of (P:=K.In) hs' (fun hh X=>keeps_K hkp hh X) (evalArgs_any (wpAny_pos pa (h1.run V A _ _ E (rm.at pa) qa fun vs hb' tb gb qb rb pb=>⟨hK.keeps qb.base,?_⟩)) hs)
 refine wpAny_pos pb (make_newG hK hm hi hf hc ((rm.at pb).le hn) qb.base qb.vok qb.wd rb fun a dx R' lo' σ' h' tk na nd ra rd p up fr g bs vk wd p1=>?_)
 have q2:=qb.grown up fr g bs vk wd
 refine wpAny_pos p1 (bind_step (S:=B.sys R' lo') (a:=.v (.ref a)) f hb up_upd q2 rfl fun h3 tk3 g3 q3 p3=>?_)
 obtain ⟨ρ₁,hu,h2⟩:=h2 a dx R' lo' σ' p up ra rd (gone_R qb.vok na) (gone_R qb.vok nd)
 refine h2.run _ A _ Q E (rm.at p3) (q3.sub (upd_up hu)) fun h4 tk4 g4=>h h4 tk4 ?_
 have gone:∀ b,hb'.get? b=none→s.heap.get? b=none:=fun b hx=>by
  cases e:s.heap.get? b with
  | none=>rfl
  | some o=>
   by_cases k:R b
   ·obtain ⟨o',e'⟩:=(qb.vok.2 b (q.vok.1 b k)).2;rw [hx] at e';cases e'
   have:=(ga.trans gb) _ o e k;rw [hx] at this;cases this
 refine Grow.drop (X:=fun b=>R' b∨Own env b) ((((ga.trans gb).trans g).mono fun b k=>.inl (up b k)).trans ((g3.mono fun b k=>.inr k).trans g4)) fun b k=>?_
 rcases k with k | k
 exact (fr b k).imp .inl (gone b);exact .inl (.inr k)
end
end
section
section
variable {B:Base} {R:Addr→Prop} {lo:∀ a,R a→B.h₁.get? a=none} {σ:Sto}
theorem bs_set {V:Addr→Prop} {h h':Heap} {d:Addr} (bs:Bs (B.sys R lo) h) (vk:VOk (B.sys R lo) V h) (sb:Heap.SameBut d h h') (hd:V d):Bs (B.sys R lo) h':=bs.grow vk (Grow.same sb (X:=fun b=>b=d) rfl) fun b e=>e▸hd
theorem vk_set {V:Addr→Prop} {h h':Heap} {d:Addr} (vk:VOk (B.sys R lo) V h) (sb:Heap.SameBut d h h') (hd:V d) (ex:∃ o,h'.get? d=some o):VOk (B.sys R lo) V h':=vk.grow (Grow.same sb (X:=fun b=>b=d) rfl) fun b e=>e▸ex
theorem cls_get {K:Frag} {C:Addr} {cd:ClassData} (h:clsIn K C=some cd):∃ o,K.lookup C=some o∧o.data=.cls cd:=by
 cases e:List.lookup C K with
 | none=>rw [clsIn,e] at h;cases h
 | some o=>
  rw [clsIn,e] at h
  obtain ⟨c,d,dt,sl⟩:=o
  cases dt <;> cases h
  exact ⟨_,rfl,rfl⟩
theorem fsg_super {K:Frag} {n m:Nat} {f f2 x C D dx cda cc:Addr} {of:Obj} {fd:FuncData} {name nm:Str} {p0 p1 p2 p3 p4 q0 q1 q2 q3:Pos} {ar:Arg} {vs:Array Value} {file:Str} {tf:Tok} {ccl cl:Value} {cdd cld:Option Addr} {ccs csl:Array (Option Value)} {cdD cdC:ClassData} {kvs:List (PyData × AV)} {P1 P:(Addr→Prop)→Sto→Prop}
  (hK:K.In B.h₁) (hl:K.lookup f=some of) (hd:of.data=.func fd) (hcd:codeIn K fd.code fd.qualname=true)
  (hbody:fd.body=.stmts [.Expr (.Call (.Attribute (.Call (.Name "super" p0) [] [] p1) name p2) [] [] p3) p4,.Assign [.Attribute (.Name "self" q0) nm q1] (.Dict [] [] q2) q3])
  (hg:fd.globals=mainGlobals) (hb:fd.builtins=builtinsNs) (hbind:bindArgs fd ⟨[.ref x],[]⟩=pure ([(("self" : Str),Value.ref x)]:List (Str × Value))) (hcell:∀ y∈fd.scope.names,y.2≠.cell) (hself:fd.scope.names.lookup ("self" : Str)=some .local)
  (hks:fd.scope.names.lookup ("super" : Str)=some .globalImplicit) (hkc:fd.scope.names.lookup ("__class__" : Str)=some .free) (hclo:fd.closure=([(("__class__" : Str),cc)]:List (Str × Addr)))
  (hp:(fd.params.posonlyargs++fd.params.args).head?=some ar) (har:ar.arg=("self" : Str)) (hcode:fd.code=.ref cda) (hcda:K.lookup cda=some ⟨ccl,cdd,.fields vs,ccs⟩) (hvs:vs[2]?=some (.str file tf)) (hfile:((B.prog.main.file:Str) == file)=true)
  (htop:(B.prog.main.scope.names.lookup ("super" : Str)).isSome=false) (hcv:K.lookup cc=some ⟨cl,cld,.cell (some (.ref D)),csl⟩) (hD:clsIn K D=some cdD) (hC:clsIn K C=some cdC) (hsub:mroIn K C (.ref D)=some true) (hsuper:nsIn K mainGlobals "super"=some none)
  (hsup:ks_superIn K C D name=some (some (.ref f2))) (hfn:fnIn K f2=true) (hty:typeIn K (.ref f2)=some (.type "function")) (hopq:nsIn K cStatics "thirdparty.any"=some none) (hname:(name == ("__class__" : Str))=false)
  (hco:fd.scope.isCoroutine=false) (hgen:fd.scope.isGenerator=false) (hk:fd.scope.kind=.function) (hboot:bootBuiltins "super"=some (.type "super"))
  (c:Cls K C) (hnm:PyData.strOk nm=true) (ht:takerIn K C nm=some none)
  (I:Obj' R σ x C dx kvs) (h1:FSG B R lo m f2 [.v (.ref x)] σ P1) (hm:m≤n)
  (h2:∀ R1 σ1,P1 R1 σ1→(∀ b,R1 b→B.h₁.get? b=none)→(∀ b,R b→R1 b)→∃ kvs1,Obj' R1 σ1 x C dx kvs1∧strKeys kvs1=true∧kvGet kvs1 (.str nm)=none∧kvs1.length≤1000 ∧
   ∀ a,B.h₁.get? a=none→¬R1 a→P (fun b=>R1 b∨b=a) (put (put σ1 dx (.dict (kvs1++[(.str nm,.v (.ref a))]))) a (.dict [])))
  (hsw:∀ env,swapsWith (.Dict [] [] q2) (some (.Attribute (.Name "self" q0) nm q1)) q3.line env=pure false) (he:∀ env,eval (.Call (.Attribute (.Call (.Name "super" p0) [] [] p1) name p2) [] [] p3) env=(do
   let ov ← attributeBase (.Call (.Name "super" p0) [] [] p1) name env (eval (.Call (.Name "super" p0) [] [] p1) env)
   standAt p2.atName
   let (f,first) ← holding [ov] (getMethod ov name (do return (← importBound (.Call (.Name "super" p0) [] [] p1) env).getD true))
   callWith p3 f first (backTo p3 (starEach [] env)) []))
  (hsw':∀ env,swapsWith (.Call (.Attribute (.Call (.Name "super" p0) [] [] p1) name p2) [] [] p3) none p4.line env=pure false) :
  FSG B R lo (n+1) f [.v (.ref x)] σ P:=by
 intro V A s vs0 Rr rm bs vk wd r hq
 cases r with
 | cons rx r=>
 cases r
 have rx:_=_:=rx
 subst rx
 have ho:=hK _ _ hl
 have hcd':=codeRec_of hK hcd
 refine ks_codeAny_call_defAt (fd:=fd) (binds:=[(("self" : Str),Value.ref x)]) rm.depth (bs _ _ ho) hd (B.lim.keeps bs) (hcd'.keeps bs) hbody (BindsTo.of_eq hbind) hcell (fun y hy=>by rw [List.mem_singleton.mp hy];exact hself) (fun h₀ hns keep=>?_) hco hgen hk
 have kSelf:(callEnv fd s.heap.objs.size f).kindOf "self"=some .local:=hself
 have kSuper:(callEnv fd s.heap.objs.size f).kindOf "super"=some .globalImplicit:=hks
 have kCls:(callEnv fd s.heap.objs.size f).kindOf "__class__"=some .free:=hkc
 have kFun:(callEnv fd s.heap.objs.size f).scope.kind=.function:=hk
 have eG:(callEnv fd s.heap.objs.size f).globals=mainGlobals:=hg
 have eB:(callEnv fd s.heap.objs.size f).builtins=builtinsNs:=hb
 have eC:(callEnv fd s.heap.objs.size f).cells=([(("__class__" : Str),cc)]:List (Str × Addr)):=hclo
 have eF:(callEnv fd s.heap.objs.size f).func=some f:=rfl
 have eO:(callEnv fd s.heap.objs.size f).code=.ref cda:=hcode
 have eL:(callEnv fd s.heap.objs.size f).locals=s.heap.objs.size:=rfl
 generalize callEnv fd s.heap.objs.size f=env at *
 have fr:s.heap.get? s.heap.objs.size=none:=none_size _ (Nat.le_refl _)
 have nRL:¬R s.heap.objs.size:=gone_R vk fr
 have g0:Grow (fun _u=>False) s.heap h₀:=.of keep
 have bs0:Bs (B.sys R lo) h₀:=fun a o e=>keep a o (bs a o e)
 have vk0:VOk (B.sys R lo) V h₀:=⟨vk.1,fun a k=>⟨(vk.2 a k).1,let ⟨o,e⟩:=(vk.2 a k).2;⟨o,keep a o e⟩⟩⟩
 have wd0:WdOf B.w R V h₀ σ:=(B.sys R lo).grow wd g0 (fun _u k=>k.elim) fun _u k=>k.elim
 have X0:K.In h₀:=hK.keeps bs0
 have ex:=wd_raw wd0 I.rx I.ex
 obtain ⟨oD,hD1,hD2⟩:∃ oD,h₀.get? D=some oD∧oD.data=.cls cdD:=by
  obtain ⟨o,ho',hd'⟩:=cls_get hD
  exact ⟨o,X0 _ _ ho',hd'⟩
 refine ks_wpAt_execs_cons (ks_wpAt_Expr_any (ks_wpAt_MethodCall (ks_wpAt_super_base (env:=env) kSuper kCls hname eF (keep _ _ (bs _ _ ho)) hd hp eO (X0 _ _ hcda) rfl hvs hfile htop ?_) (he env)) ?hi (hsw' env))
 case hi=>unfold interactive;rw [kFun];rfl
 refine ks_loadName_global kFun kSuper (loadGlobal_builtin (mg:=B.mg) (mb:=B.mb) (by rw [eG];exact B.g.keeps bs0) (mg_none_of hK B.g hsuper) (by rw [eB];exact B.b.keeps bs0) (B.bb _ _ hboot (by decide)) ⟨rfl,?_⟩)
 refine wpAny_loadName_free kFun kCls (by rw [eC];rfl) ⟨_,X0 _ _ hcv,rfl⟩ ?_
 rw [har]
 refine wpAny_loadName_local kFun kSelf (by rw [eL];exact hns) (v:=.ref x) rfl ?_
 refine ks_wpAny_isType_cls hD1 hD2 ⟨rfl,?_⟩
 refine ks_wpAny_call_super hD1 hD2 ex rfl (fun c e=>by cases e) (looks_mroIn X0 hsub) (fun h1' e1 k1=>?_)
 have g1:Grow (fun _u=>False) h₀ h1':=.of k1
 have X1:K.In h1':=fun a o e=>k1 _ _ (X0 a o e)
 have hofn:∃ of2,h1'.get? f2=some of2∧of2.cls=.type "function":=by
  have ht':(K.lookup f2).map (·.cls)=some (.type "function"):=hty
  cases z:K.lookup f2 with
  | none=>rw [z] at ht';cases ht'
  | some o2=>rw [z] at ht';exact ⟨o2,X1 _ _ z,Option.some.inj ht'⟩
 obtain ⟨of2,hof2,hofc⟩:=hofn
 have hne:x≠C:=by
  rintro rfl
  obtain ⟨o,ho',hd'⟩:=cls_get hC
  have e:=X0 _ _ ho'
  rw [ex] at e
  cases e
  cases hd'
 unfold ks_superIn at hsup
 rw [hC] at hsup
 refine ks_wpAny_getMethod_super e1 (looks_opaque X1 hopq) (l₀:=cdC.mro) (fun A Q E s k q=>wpAny_bind ((looks_clsIn X1 hC) A _ E s k (wpAny_pure q))) rfl X1 hsup hof2 hofc hne hname ?_
 have k2:∀ b o,h1'.get? b=some o→(h1'.push { cls:=.type "method",data:=.fields #[.ref f2,.ref x] }).get? b=some o:=fun b o e=>Heap.get?_push_of_some _ e
 have g2:Grow (fun _u=>False) h₀ (h1'.push { cls:=.type "method",data:=.fields #[.ref f2,.ref x] }):=g1.trans (.of k2)
 have em:(h1'.push { cls:=.type "method",data:=.fields #[.ref f2,.ref x] }).get? h1'.objs.size=some (methodObj (.ref f2) (.ref x)):=Heap.get?_push_size _ rfl
 have bs2:Bs (B.sys R lo) (h1'.push { cls:=.type "method",data:=.fields #[.ref f2,.ref x] }):=fun a o e=>g2 a o (bs0 a o e) id
 have vk2:VOk (B.sys R lo) V (h1'.push { cls:=.type "method",data:=.fields #[.ref f2,.ref x] }):=⟨vk.1,fun a k=>⟨(vk0.2 a k).1,let ⟨o,e⟩:=(vk0.2 a k).2;⟨o,g2 _ _ e id⟩⟩⟩
 have wd2:WdOf B.w R V (h1'.push { cls:=.type "method",data:=.fields #[.ref f2,.ref x] }) σ:=(B.sys R lo).grow wd0 g2 (fun _u k=>k.elim) fun _u k=>k.elim
 have ns2:(h1'.push { cls:=.type "method",data:=.fields #[.ref f2,.ref x] }).Ns s.heap.objs.size (fun y=>[(("self" : Str),Value.ref x)].reverse.lookup y):=ns_grow hns g2 id
 generalize h1'.push { cls:=.type "method",data:=.fields #[.ref f2,.ref x] }=H2 at em bs2 vk2 wd2 ns2 g2 ⊢
 dsimp only
 refine callWith_M0 (K:=K) ⟨em,hK.keeps bs2⟩ hfn (wpAny_call (method_call em ?_))
 refine h1 V _ _ [.ref x] _ ⟨rm.toRm.deeper.le hm,Nat.lt_of_lt_of_le rm.pos ?tk⟩ bs2 vk2 wd2 (.cons rfl .nil) (fun R1 lo1 σ1 h3 tk3 p1 up fr3 g3 bs3 vk3 wd3=>?_)
 case tk=>exact Nat.le_succ_of_le (Nat.le_add_right _ _)
 dsimp only
 obtain ⟨kvs1,I1,hs1,hn1,hz1,fin⟩:=h2 R1 σ1 p1 lo1 up
 have goneP:∀ b,H2.get? b=none→s.heap.get? b=none:=fun b hb=>by
  cases e:s.heap.get? b with
  | none=>rfl
  | some o=>have:=g2 b o (keep b o e) id;rw [hb] at this;cases this
 have ns3:h3.Ns s.heap.objs.size (fun y=>[(("self" : Str),Value.ref x)].reverse.lookup y):=ns_grow ns2 g3 nRL
 have X3:K.In h3:=hK.keeps bs3
 refine wpAt_of_wpAny (wpAny_execs_cons (plainObj_wpAny_Assign_Attribute (wpAny_Dict_empty ?_) (hsw env)))
 have fr4:h3.get? h3.objs.size=none:=none_size _ (Nat.le_refl _)
 have g4:Grow (fun _u=>False) h3 (h3.push { cls:=.type "dict",data:=.dict #[] }):=Grow.push _ _
 have e4:(h3.push { cls:=.type "dict",data:=.dict #[] }).get? h3.objs.size=some { cls:=.type "dict",data:=.dict #[] }:=Heap.get?_push_size _ rfl
 have bs4:Bs (B.sys R1 lo1) (h3.push { cls:=.type "dict",data:=.dict #[] }):=fun a o e=>g4 a o (bs3 a o e) id
 have na:B.h₁.get? h3.objs.size=none:=gone_lo (s:={ s with heap:=h3 }) bs3 fr4
 have nR1:¬R1 h3.objs.size:=gone_R (s:={ s with heap:=h3 }) vk3 fr4
 have vk4:VOk (B.sys R1 lo1) (fun b=>V b∨(R1 b∨b=h3.objs.size)) (h3.push { cls:=.type "dict",data:=.dict #[] }):=⟨fun a k=>.inr (.inl k),fun a k=>by
  by_cases e:a=h3.objs.size
  ·subst e;exact ⟨na,_,e4⟩
  have k:V a∨R1 a:=k.imp id fun k=>k.resolve_right e
  exact ⟨(vk3.2 a k).1,let ⟨o,e⟩:=(vk3.2 a k).2;⟨o,g4 _ _ e id⟩⟩⟩
 have wd4:WdOf B.w R1 (fun b=>V b∨(R1 b∨b=h3.objs.size)) (h3.push { cls:=.type "dict",data:=.dict #[] }) σ1:=(B.sys R1 lo1).grow ((B.sys R1 lo1).to wd3 (fun a k=>by
  rcases k with k | k | k
  exact .inl (.inl k);exact .inl (.inr k)
  subst k;exact .inr fr4) fun a k=>.inr (.inl k)) g4 (fun _u k=>k.elim) fun _u k=>k.elim
 have ns4:(h3.push { cls:=.type "dict",data:=.dict #[] }).Ns s.heap.objs.size (fun y=>[(("self" : Str),Value.ref x)].reverse.lookup y):=ns_grow ns3 g4 id
 refine wpAny_Name (wpAny_loadName_local kFun kSelf (by rw [eL];exact ns4) (v:=.ref x) rfl ?_) rfl
 refine set_new hK (lo:=lo1) c I1 hs1 hnm hn1 ht hz1 bs4 vk4 wd4 (av:=.v (.ref h3.objs.size)) rfl fun h5 tk5 sb wd5=>wpAny_execs_nil ?_
 have hdx:V dx∨(R1 dx∨dx=h3.objs.size):=.inr (.inl I1.rd)
 have ne:h3.objs.size≠dx:=fun e=>nR1 (e▸I1.rd)
 have e5:h5.get? h3.objs.size=some { cls:=.type "dict",data:=.dict #[] }:=(Grow.same sb (X:=fun b=>b=dx) rfl) _ _ e4 ne
 have bs5:=bs_set bs4 vk4 sb hdx
 have vk5:=vk_set vk4 sb hdx (by obtain ⟨m,_,q⟩:=wd5 dx I1.rd;exact q.ex)
 refine hq (fun b=>R1 b∨b=h3.objs.size) (lo_more lo1 na) _ h5 tk5 (fin _ na nR1) (fun b k=>.inl (up b k)) (fun b k=>?_) ?_ bs5 ⟨fun a k=>.inr k,vk5.2⟩ fun b k=>?_
 ·rcases k with k | k
  exact (fr3 b k).imp id (goneP b)
  subst k
  refine .inr (goneP _ ?_)
  cases e:H2.get? h3.objs.size with
  | none=>rfl
  | some o=>
   by_cases kr:R h3.objs.size
   exact absurd (up _ kr) nR1
   have:=g3 _ o e kr;rw [fr4] at this;cases this
 ·refine Grow.drop (X:=fun b=>R b∨b=s.heap.objs.size) ?_ fun b k=>k.imp id fun e=>by rw [e];exact fr
  refine ((((g0.mono fun _u k=>k.elim).trans (g2.mono fun _u k=>k.elim)).trans (g3.mono fun b k=>.inl k)).trans (g4.mono fun _u k=>k.elim)).trans ?_
  exact Grow.same sb (.inl I.rd)
 by_cases e:b=h3.objs.size
 ·subst e;exact ⟨_,put_here,⟨⟨#[],0,e5,.nil⟩,⟨fun _u hp=>(by simp at hp),List.nodup_nil⟩⟩⟩
 obtain ⟨mm,em',qm⟩:=wd5 b (k.resolve_right e)
 exact ⟨mm,(put_there e).trans em',qm⟩
end
end
section
variable {B:Base} {R:Addr→Prop} {lo:∀ a,R a→B.h₁.get? a=none} {σ:Sto}
structure TInit (R:Addr→Prop) (σ:Sto) (x dx:Addr) (R':Addr→Prop) (σ':Sto) (D:BankD):Prop where
 b:D.b=x
 d:D.d=dx
 ok:BOk R' D
 new:∀ a∈D.all,a=x∨a=dx∨¬R a
 up:∀ b,R b→R' b
 eq:wB D σ' bk0=σ'
 off:∀ b,R b→b∉D.all→σ' b=σ b
theorem all_cons {α:Type} {P:α→Prop} {a:α} {l:List α} (h:P a) (t:∀ p∈l,P p):∀ p∈a::l,P p:=List.forall_mem_cons.mpr ⟨h,t⟩
theorem raw_eq {D:BankD} {σ:Sto} {r:Raw} (h:∀ p∈bTab D r,σ p.1=some p.2) (nd:D.all.Nodup):setRaw D σ r=σ:=by
 funext a
 by_cases k:a∈D.all
 ·obtain ⟨p,hp,e⟩:=List.mem_map.mp (show a∈(bTab D r).map (·.1) from k)
  obtain ⟨i,hi⟩:=List.getElem?_of_mem hp
  subst e
  exact (lk_get (T:=bTab D r) nd (i:=i) hi).trans (h p hp).symm
 exact lk_off (T:=bTab D r) k
theorem c_tbinit (hK:(KZ B.w.params).In B.h₁) (hsys:∀ a,B.h₁.get? a=none→(a == sysModules)=false) (hfile:((B.prog.main.file:Str) == ("/claim/cut.py" : Str))=true) (htop:(B.prog.main.scope.names.lookup ("super" : Str)).isSome=false) {x dx:Addr} (I:Obj' R σ x 628 dx []) :
  FSG B R lo 5 527 [.v (.ref x)] σ (fun R' σ'=>∃ D,TInit R σ x dx R' σ' D):=by
 refine' fsg_super (P1:=fun R' σ'=>∃ sn sw fn fa fr to ta ts td nb,BInit R σ x dx R' σ' sn sw fn fa fr to ta ts td nb) hK ?lk ?hd ?cd ?bd ?g ?b ?bind ?cell ?self ?su ?cl ?clo ?p ?ar ?code ?lc ?vs hfile htop ?lcc ?clD ?clC ?sub ?sup ?ksup ?fn ?ty ?opq ?nm ?co ?gen ?k ?boot (cls_bank B.w) ?snm ?tk I (c_bankinit hK hsys I) ?le ?h2 ?sw ?he ?sw2
 case lk=>k_is
 case hd=>exact rfl
 case cd=>k_is
 case bd=>exact rfl
 case g=>exact rfl
 case b=>exact rfl
 case bind=>exact rfl
 case cell=>decide
 case self=>rfl
 case su=>rfl
 case cl=>rfl
 case clo=>exact rfl
 case p=>exact rfl
 case ar=>rfl
 case code=>exact rfl
 case lc=>k_is
 case vs=>exact rfl
 case lcc=>k_is
 case clD=>k_is
 case clC=>k_is
 case sub=>k_is
 case sup=>k_is
 case ksup=>ks_is
 case fn=>k_is
 case ty=>k_is
 case opq=>k_is
 case nm=>decide
 case co=>exact rfl
 case gen=>exact rfl
 case k=>exact rfl
 case boot=>kernel_rfl
 case snm=>decide +kernel
 case tk=>k_is
 case le=>decide
 case sw=>intro env;rfl
 case he=>intro env;rfl
 case sw2=>intro env;rfl
 case h2=>
  rintro R1 σ1 ⟨sn,sw,fn,fa,fr,to,ta,ts,td,nb,bi⟩ lo1 up
  have nR1:∀ b∈[sn,sw,fn,fa,fr,to,ta,ts,td,nb],R1 b:=fun b hb=>(bi.more b).mpr (.inr hb)
  refine ⟨_,⟨up _ I.rx,bi.g_x.trans I.ex,up _ I.rd,bi.g_dx⟩,rfl,kvGet_off (keys11++[.str "true_number"]++[.str "false_number"]) rfl (by decide +kernel),by simp,fun a na nR=>⟨⟨x,dx,sn,sw,fn,fa,fr,to,ta,ts,td,nb,a⟩,?_⟩⟩
  have ne:∀ b∈[x,dx,sn,sw,fn,fa,fr,to,ta,ts,td,nb],b≠a:=fun b hb e=>by
   subst e
   rcases List.mem_cons.mp hb with e | hb
   exact nR (by rw [e];exact up _ I.rx)
   rcases List.mem_cons.mp hb with e | hb
   exact nR (by rw [e];exact up _ I.rd);exact nR (nR1 _ hb)
  have nd:=bi.nd
  have all:BankD.all ⟨x,dx,sn,sw,fn,fa,fr,to,ta,ts,td,nb,a⟩=[x,dx,sn,sw,fn,fa,fr,to,ta,ts,td,nb]++[a]:=rfl
  have nda:(BankD.all ⟨x,dx,sn,sw,fn,fa,fr,to,ta,ts,td,nb,a⟩).Nodup:=by
   rw [all,List.nodup_append]
   exact ⟨nd,by simp,fun y hy z hz=>by rw [List.mem_singleton.mp hz];exact ne y hy⟩
  have bo:BOk (fun b=>R1 b∨b=a) ⟨x,dx,sn,sw,fn,fa,fr,to,ta,ts,td,nb,a⟩:=⟨nda,fun b hb=>?_,hsys _ (lo1 _ (nR1 _ (.tail _ (.tail _ (.tail _ (.tail _ (.tail _ (.tail _ (.tail _ (.tail _ (.tail _ (.head _)))))))))))),hsys _ na⟩
  ·refine ⟨rfl,rfl,bo,fun b hb=>?_,fun b k=>.inl (up b k),raw_eq (all_cons ((put_there (ne x (.head _))).trans ((put_there (nd_ne nd (i:=0) (j:=1) rfl rfl (by decide))).trans (bi.g_x.trans I.ex))) ( all_cons ((put_there (ne dx (.tail _ (.head _)))).trans put_here) ( all_cons ((put_there (ne sn (.tail _ (.tail _ (.head _))))).trans ((put_there (nd_ne nd (i:=2) (j:=1) rfl rfl (by decide))).trans (bi.g_sn))) ( all_cons ((put_there (ne sw (.tail _ (.tail _ (.tail _ (.head _)))))).trans ((put_there (nd_ne nd (i:=3) (j:=1) rfl rfl (by decide))).trans (bi.g_sw))) ( all_cons ((put_there (ne fn (.tail _ (.tail _ (.tail _ (.tail _ (.head _))))))).trans ((put_there (nd_ne nd (i:=4) (j:=1) rfl rfl (by decide))).trans (bi.g_fn))) ( all_cons ((put_there (ne fa (.tail _ (.tail _ (.tail _ (.tail _ (.tail _ (.head _)))))))).trans ((put_there (nd_ne nd (i:=5) (j:=1) rfl rfl (by decide))).trans (bi.g_fa))) ( all_cons ((put_there (ne fr (.tail _ (.tail _ (.tail _ (.tail _ (.tail _ (.tail _ (.head _))))))))).trans ((put_there (nd_ne nd (i:=6) (j:=1) rfl rfl (by decide))).trans (bi.g_fr))) ( all_cons ((put_there (ne to (.tail _ (.tail _ (.tail _ (.tail _ (.tail _ (.tail _ (.tail _ (.head _)))))))))).trans ((put_there (nd_ne nd (i:=7) (j:=1) rfl rfl (by decide))).trans (bi.g_to))) ( all_cons ((put_there (ne ta (.tail _ (.tail _ (.tail _ (.tail _ (.tail _ (.tail _ (.tail _ (.tail _ (.head _))))))))))).trans ((put_there (nd_ne nd (i:=8) (j:=1) rfl rfl (by decide))).trans (bi.g_ta))) ( all_cons ((put_there (ne ts (.tail _ (.tail _ (.tail _ (.tail _ (.tail _ (.tail _ (.tail _ (.tail _ (.tail _ (.head _)))))))))))).trans ((put_there (nd_ne nd (i:=9) (j:=1) rfl rfl (by decide))).trans (bi.g_ts))) ( all_cons ((put_there (ne td (.tail _ (.tail _ (.tail _ (.tail _ (.tail _ (.tail _ (.tail _ (.tail _ (.tail _ (.tail _ (.head _))))))))))))).trans ((put_there (nd_ne nd (i:=10) (j:=1) rfl rfl (by decide))).trans (bi.g_td))) ( all_cons ((put_there (ne nb (.tail _ (.tail _ (.tail _ (.tail _ (.tail _ (.tail _ (.tail _ (.tail _ (.tail _ (.tail _ (.tail _ (.head _)))))))))))))).trans ((put_there (nd_ne nd (i:=11) (j:=1) rfl rfl (by decide))).trans (bi.g_nb))) ( all_cons (put_here) ( List.forall_mem_nil _)))))))))))))) nda,fun b k hb=>?_⟩
   ·rw [all] at hb
    rcases List.mem_append.mp hb with hb | hb
    ·rcases List.mem_cons.mp hb with e | hb
     exact .inl e
     rcases List.mem_cons.mp hb with e | hb
     exact .inr (.inl e);exact .inr (.inr (bi.new b hb))
    exact .inr (.inr fun k=>nR (by rw [← List.mem_singleton.mp hb];exact up _ k))
   have n1:b≠a:=fun e=>nR (e▸up _ k)
   have n2:b≠dx:=fun e=>hb (by rw [all,e];exact .tail _ (.head _))
   exact (put_there n1).trans ((put_there n2).trans (bi.off b k n2))
  rw [all] at hb
  rcases List.mem_append.mp hb with hb | hb
  ·rcases List.mem_cons.mp hb with e | hb
   exact .inl (by rw [e];exact up _ I.rx)
   rcases List.mem_cons.mp hb with e | hb
   exact .inl (by rw [e];exact up _ I.rd);exact .inl (nR1 b hb)
  exact .inr (List.mem_singleton.mp hb)
structure JInit (R:Addr→Prop) (σ:Sto) (J dJ bk:Addr) (R':Addr→Prop) (σ':Sto) (tb:Addr):Prop where
 I:Judge R' σ' J dJ bk tb
 more:∀ b,R' b↔R b∨b=tb
 off:∀ b,R b→b≠dJ→σ' b=σ b
theorem c_jinit (hK:(KZ B.w.params).In B.h₁) {J dJ bk:Addr} (I:Obj' R σ J 845 dJ []):FSG B R lo 1 644 [.v (.ref J),.v (.ref bk)] σ (fun R' σ'=>∃ tb,JInit R σ J dJ bk R' σ' tb):=by
 refine fsg_def (names:=["self","bank"]) hK ?h_1
 case h_1=>
  intro env f
  change ExG _ _ _ _ _ [("self",_),("bank",_)] _ _ _
  have c:=cls_judge B.w
  with_reducible apply exg_step
  ·with_reducible apply ex_setd hK c
   walk_at "n";walk_at "n";exact I;rfl;decide +kernel;rfl;k_is
   ·simp
   rfl
  have I1:=I.upd (kvs':=[(.str "bank",.v (.ref bk))])
  refine' exg_new (m:=.dict []) (ns_dict hK c ?o I1 rfl (by decide +kernel) (kvGet_off [.str "bank"] rfl (by decide +kernel)) (by k_is) (by simp) rfl) (fun tb na nr=>?r)
  case o=>walk_at "n"
  case r=>
   apply exg_nil
   have I2:=I1.add (kvs':=judgeKv bk tb) (m:=.dict []) nr
   refine ⟨tb,I2,fun b=>Iff.rfl,fun b k n=>?_⟩
   exact (put_there fun (e:b=tb)=>nr (e▸k)).trans ((put_there n).trans (put_there n))
theorem ext_def {K:Frag} {f:Addr} {of:Obj} {fd:FuncData} {body:List Stmt} {nm:List (Str × NameKind)} {P:List Stmt→List (Str × NameKind)→Prop} (hl:K.lookup f=some of) (hd:of.data=.func fd) (hb:fd.body=.stmts body) (hn:fd.scope.names=nm) (h:P body nm) :
  ∀ of' fd' body',K.lookup f=some of'→of'.data=.func fd'→fd'.body=.stmts body'→P body' fd'.scope.names:=by
 intro of' fd' body' hl' hd' hb'
 rw [hl] at hl';cases hl';rw [hd] at hd';cases hd';rw [hb] at hb';cases hb';rw [hn];exact h
theorem put_self {σ:Sto} {a:Addr} {m:Mut} (h:σ a=some m):put σ a m=σ:=by
 funext b
 by_cases e:b=a
 ·subst e;exact put_here.trans h.symm
 exact put_there e
theorem raw_in {D:BankD} {σ σ':Sto} {r:Raw} {a:Addr} (h:a∈D.all):setRaw D σ r a=setRaw D σ' r a:=lk_in (T:=bTab D r) h
theorem raw_keep {D:BankD} {σ σ':Sto} {r:Raw} (h:∀ a∈D.all,σ' a=σ a) (e:setRaw D σ r=σ):setRaw D σ' r=σ':=by
 funext a
 by_cases k:a∈D.all
 ·rw [raw_in (σ':=σ) k,e];exact (h a k).symm
 exact raw_off k
theorem sum_bound {f:Int→Int} (h:∀ c,0≤f c∧f c<97):∀ l:List Int,0≤(l.map f).sum∧(l.map f).sum≤97*(l.length:Int)
 | []=>by simp
 | c::l=>by
  have:=sum_bound h l
  have:=h c
  rw [List.map_cons,List.sum_cons,List.length_cons]
  walk_at "o"
@[reducible] noncomputable def mod97 (c:Int):Int:=(if c<0 then -c else c).fmod 97
theorem mod97_ok (c:Int):0≤mod97 c∧mod97 c<97:=by
 unfold mod97
 rw [Int.fmod_eq_emod_of_nonneg _ (by decide)]
 exact ⟨Int.emod_nonneg _ (by decide),Int.emod_lt_of_pos _ (by decide)⟩
theorem feed_new {c:List Int} {b:Int}:kvAll [(.str "cells",.d (.list (c.map .int))),(.str "count",.d (.int 0)),(.str "blend",.d (.int b))] []=feedKv c 0 b:=by
 unfold kvAll feedKv
 simp only [List.foldl_cons,List.foldl_nil]
 rw [kvSet_none (kvs:=[]) rfl,List.nil_append,kvSet_skip (by decide +kernel),kvSet_none (kvs:=[]) rfl,List.nil_append,kvSet_skip (by decide +kernel),kvSet_skip (by decide +kernel),kvSet_none (kvs:=[]) rfl]
 rfl
theorem c_lawbody (hK:(KZ B.w.params).In B.h₁) (hsys:∀ a,B.h₁.get? a=none→(a == sysModules)=false) (hfile:((B.prog.main.file:Str) == ("/claim/cut.py" : Str))=true) (htop:(B.prog.main.scope.names.lookup ("super" : Str)).isSome=false) {ns:List Int} (hlen:ns.length≤63) {lo:∀ a,(fun _:Addr=>False) a→B.h₁.get? a=none} :
  ∀ of fd body,(KZ B.w.params).lookup 909=some of→of.data=.func fd→fd.body=.stmts body→∀ env,Fn' env fd.scope.names→ExT B (fun _u=>False) lo 20 env [("script",.d (.list (ns.map .int)))] σ (execs body env) true:=by
 refine' ext_def (P:=fun body nm=>∀ env,Fn' env nm→ExT B (fun _u=>False) lo 20 env [("script",.d (.list (ns.map .int)))] σ (execs body env) true) ?lk ?hd ?bd ?nm ?h
 case lk=>k_is
 case hd=>exact rfl
 case bd=>exact rfl
 case nm=>dsimp only
 case h=>
  intro env f
  obtain ⟨cells,hcells⟩:∃ c,ns.take 40=c:=⟨_,rfl⟩
  have hcl:cells.length≤40:=by rw [← hcells,List.length_take];walk_at "o"
  obtain ⟨b,hb⟩:∃ b,(cells.map mod97).sum=b:=⟨_,rfl⟩
  have hb2:=sum_bound mod97_ok cells
  rw [hb] at hb2
  refine' ext_new (nm_disp (kvs:=[(.str "cells",.d (.list (cells.map .int))),(.str "count",.d (.int 0)),(.str "blend",.d (.int b))]) (by walk_at "f") (by walk_at "d") ?ev ?key (by simp) rfl rfl (by simp) (by simp) rfl) ?rest
  case ev=>
   refine' evp_cons ev_str ?a1 (evp_cons ev_str ev_int (evp_cons ev_str ?a2 evp_nil))
   case a1=>
    with_reducible apply ev_is (b:=.d (.list (cells.map .int)))
    ·refine' ev_upto (k:=40) (xs:=ns.map PyData.int) ?_ ev_int (by simp;walk_at "o")
     walk_at "n"
    rw [← hcells,List.map_take]
   case a2=>
    rw [← hb]
    (with_reducible apply ev_callb);((with_reducible apply ev_blt);assumption;walk_at "f";rfl;k_is;exact bb_sum;decide;decide)
    ·walk_at "1"
     ·with_reducible apply ev_is (b:=.d (.list ((cells.map mod97).map .int)))
      ·with_reducible apply ev_new
       refine' evn_comp (ρc:=[]) (by walk_at "f") ?cf1 ?it1 (iter_list (xs:=cells.map PyData.int)) ?ct1 ?hz1 (fun _u=>rfl)
       case hz1=>simp;walk_at "o"
       case cf1=>
        refine ⟨fun p hp hq=>?_,by decide,by decide,rfl,rfl,fun p hp=>?_⟩
        ·exfalso;revert p;decide
        simp at hp
       case it1=>
        with_reducible apply ev_is (b:=.d (.list (cells.map .int)))
        ·refine' ev_upto (k:=40) (xs:=ns.map PyData.int) ?_ ev_int (by simp;walk_at "o")
         walk_at "n"
        rw [← hcells,List.map_take]
       case ct1=>
        refine' ct_map PyData.int (fun c=>PyData.int (mod97 c)) fun r hr env f=>?_
        (with_reducible apply ev_bin;apply ev_callb);((with_reducible apply ev_blt);assumption;walk_at "f";rfl;k_is;exact bb_abs;decide;decide);walk_at "1";walk_at "n";exact evs_nil;rfl;exact blt_abs;rfl;rfl;exact ev_int;walk_at "b"
      rw [List.map_map];rfl
     exact evs_nil;rfl
    exact blt_sum;rfl;rfl
  case key=>
   intro q hq
   simp only [List.mem_cons,List.not_mem_nil,or_false] at hq
   rcases hq with rfl | rfl | rfl <;> exact .str _ (by decide +kernel)
  case rest=>
   intro F naF nRF
   rw [feed_new]
   refine ⟨[("script",.d (.list (ns.map .int))),("feed",.v (.ref F))],by walk_at "u",?_⟩
   obtain ⟨σ1,hσ1⟩:∃ s,put σ F (.dict (feedKv cells 0 b))=s:=⟨_,rfl⟩
   have e1:σ1 F=some (.dict (feedKv cells 0 b)):=by rw [← hσ1];exact put_here
   rw [hσ1];clear hσ1
   refine' ext_cls hK (C:=628) (fI:=527) (m:=5) (as:=[]) (P:=fun x dx R' σ'=>∃ D,TInit (fun b=>((False∨b=F)∨b=dx)∨b=x) (put (put σ1 dx (.dict [])) x (.raw ⟨.ref 628,some dx,.plain,#[]⟩)) x dx R' σ' D) (by walk_at "f") (by walk_at "d") ?n1 evs_nil ?kp ?mk ?fi ?fn (fun x dx nx nd nRx nRdx ne=>c_tbinit hK hsys hfile htop ⟨.inr rfl,put_here,.inl (.inr rfl),(put_there (Ne.symm ne)).trans put_here⟩) (by decide) ?rest2 rfl rfl rfl
   case n1=>walk_at "g"
   case kp=>k_is
   case mk=>k_is
   case fi=>k_is
   case fn=>k_is
   case rest2=>
    rintro a dx R2 lo2 σ2 ⟨D,T⟩ up ra rd nRa nRdx
    refine ⟨[("script",.d (.list (ns.map .int))),("feed",.v (.ref F)),("bank",.v (.ref a))],by walk_at "u",?_⟩
    have nFa:F≠a:=fun e=>nRa (.inr e.symm)
    have nFd:F≠dx:=fun e=>nRdx (.inr e.symm)
    have hF:F∉D.all:=fun k=>by
     rcases T.new F k with e | e | e
     exact nFa e;exact nFd e;exact e (.inl (.inl (.inr rfl)))
    have e2:σ2 F=some (.dict (feedKv cells 0 b)):=(T.off F (.inl (.inl (.inr rfl))) hF).trans ((put_there nFa).trans ((put_there nFd).trans e1))
    have bo2:=T.ok
    have q2:=T.eq
    have eb:=T.b
    have RF:R2 F:=up F (.inr rfl)
    clear T up ra rd nRa nRdx nFa nFd
    subst eb
    refine' ext_cls hK (C:=845) (fI:=644) (m:=1) (as:=[.v (.ref D.b)]) (P:=fun J dJ R' σ'=>∃ tb,JInit (fun b=>(R2 b∨b=dJ)∨b=J) (put (put σ2 dJ (.dict [])) J (.raw ⟨.ref 845,some dJ,.plain,#[]⟩)) J dJ D.b R' σ' tb) (by walk_at "f") (by walk_at "d") ?n2 ?as2 ?kp ?mk ?fi ?fn (fun x dx nx nd nRx nRdx ne=>c_jinit hK ⟨.inr rfl,put_here,.inl (.inr rfl),(put_there (Ne.symm ne)).trans put_here⟩) (by decide) ?rest3 rfl rfl rfl
    case n2=>walk_at "g"
    case as2=>
     walk_at "1";walk_at "n";exact evs_nil;rfl
    case kp=>k_is
    case mk=>k_is
    case fi=>k_is
    case fn=>k_is
    case rest3=>
     rintro J dJ R3 lo3 σ3 ⟨tb,Z⟩ up rJ rdJ nRJ nRdJ
     refine ⟨[("script",.d (.list (ns.map .int))),("feed",.v (.ref F)),("bank",.v (.ref D.b)),("judge",.v (.ref J))],by walk_at "u",?_⟩
     have old:∀ y,R2 y→σ3 y=σ2 y:=fun y k=>(Z.off y (.inl (.inl k)) fun (e:y=dJ)=>nRdJ (e▸k)).trans ((put_there fun (e:y=J)=>nRJ (e▸k)).trans (put_there fun (e:y=dJ)=>nRdJ (e▸k)))
     have e3:σ3 F=some (.dict (feedKv cells 0 b)):=(old F RF).trans e2
     have bo:BOk R3 D:=⟨bo2.nd,fun y k=>up y (bo2.inn y k),bo2.s_nb,bo2.s_bv⟩
     have q3:setRaw D σ3 (rawOf bk0)=σ3:=raw_keep (fun y k=>old y (bo2.inn y k)) q2
     have fd:Feed R3 F cells b:=⟨up F RF,hcl,hb2.1,by walk_at "o"⟩
     have IJ:=Z.I
     have n1:J≠F:=fun e=>nRJ (e▸RF)
     have n2:dJ≠F:=fun e=>nRdJ (e▸RF)
     have o1:J∉D.all:=fun k=>nRJ (bo2.inn _ k)
     have o2:dJ∉D.all:=fun k=>nRdJ (bo2.inn _ k)
     clear Z old e2 q2 bo2 up rJ rdJ nRJ nRdJ RF
     have d5:∀ k,0≤drw cells b k 5∧drw cells b k 5<5:=fun k=>⟨draw_lo (by decide),draw_hi (by decide)⟩
     have d8:∀ k,drw cells b k 8<8:=fun k=>draw_hi (by decide)
     have ok:∀ k,tabOk (drw cells b) k=true:=fun k=>by unfold tabOk;rw [tab_true d5 d8 _ _ (form_wf _ d5 3 k)];exact beq_self_eq_true _
     have k1:=formOf_le (drw cells b) 3 0
     have t1:=c_tabright (lo:=lo3) hK fd IJ n1 n2 (k:=0) (by decide)
     rw [ok] at t1
     generalize hk1:(formOf (drw cells b) 3 0).2+5=m1 at t1
     have k2:=formOf_le (drw cells b) 3 m1
     have t2:=c_tabright (lo:=lo3) hK fd IJ n1 n2 (k:=m1) (by walk_at "o")
     rw [ok] at t2
     generalize hk2:(formOf (drw cells b) 3 m1).2+5=m2 at t2
     obtain ⟨k',bk',t3⟩:=c_unright (lo:=lo3) hK bo fd hF IJ n1 n2 o1 o2 (k:=m2) (by walk_at "o")
     have w0:fw σ3 F cells b 0=σ3:=put_self e3
     have w2:wU D σ3 F cells b m2 bk0=fw σ3 F cells b m2:=by show setRaw D (put σ3 F _) _=put σ3 F _;rw [← put_raw hF,q3]
     rw [w0] at t1
     rw [w2] at t3
     with_reducible apply ext_step (ρ₁:=[("script",.d (.list (ns.map .int))),("feed",.v (.ref F)),("bank",.v (.ref D.b)),("judge",.v (.ref J))]) (σ₁:=fw σ3 F cells b m2)
     ·with_reducible apply ex_if (b:=false) (σ₁:=fw σ3 F cells b m2)
      ·with_reducible apply tr_bool
       refine' tr_or (b:=false) (c:=false) (σ₁:=fw σ3 F cells b m1) ?c1 (fun _u=>tr_or (b:=false) (c:=false) (σ₁:=fw σ3 F cells b m2) ?c2 (fun _u=>tr_or_nil) (fun h=>by cases h)) (fun h=>by cases h)
       case c1=>
        walk_at "5";(with_reducible apply tr_not;apply tr_val;apply ev_call);walk_at "g";walk_at "1";walk_at "n";walk_at "1";walk_at "n";exact evs_nil;rfl;rfl;exact t1;walk_at "k";exact hK _ _ (by k_is);rfl;rfl;rfl;rfl
       case c2=>
        walk_at "5";(with_reducible apply tr_not;apply tr_val;apply ev_call);walk_at "g";walk_at "1";walk_at "n";walk_at "1";walk_at "n";exact evs_nil;rfl;rfl;exact t2;walk_at "k";exact hK _ _ (by k_is);rfl;rfl;rfl;rfl
      intro h;cases h
      intro _;exact ex_nil
     apply ext_ret
     walk_at "6";(with_reducible apply ex_ret;apply ev_call);walk_at "g";walk_at "1";walk_at "n";walk_at "1";walk_at "n";walk_at "1";walk_at "n";exact evs_nil;rfl;rfl;rfl;exact t3;walk_at "k";exact hK _ _ (by k_is);rfl;rfl
end
section
theorem wellAll_rd {P:Params} {V:Addr→Prop} {h:Heap}:∀ {ns:List Int} {vs:List Value},WellAll P h vs (ofPys (ns.map .int))→RdAll V h vs (ns.map .int)
 | [],_,r=>by rw [List.map_nil,ofPys] at r;cases r;exact .nil
 | n::ns,_,r=>by
  rw [List.map_cons,ofPys,ofPy] at r
  cases r with
  | cons a b=>cases a;exact .cons (.int _ _) (wellAll_rd b)
theorem no_cells {nm:List (Str × NameKind)} (h:(nm.all fun p=>p.2 != .cell)=true) {x:Str} (e:nm.lookup x=some .cell) {P:Prop}:P:=by
 have:=List.all_eq_true.mp h _ (mem_of_lookup e)
 cases this
theorem law_end {prog:Program} {w:World} {h0:Heap} {mg mb:Str→Option Value} {la L:Addr} {ns:List Int} {m:Str→Option Value} {A:Around} {s:Shared} {E:Value→Shared→Prop} {Q:Flow→Shared→Prop} {env:Env} {of:Obj} {fd:FuncData} {body:List Stmt} {p:Program} {loose:List Str} {mean:ExcName→Option Value}
  (KX:(KZ w.params).In h0) (T:Top p loose mean mg mb h0) (hp:importsNone p=true) (hw:Well w.params h0 (.ref la) (ofPy (.list (ns.map .int)))) (hlen:¬((63:Nat):Int)<(ns.length:Int))
  (hfile:((prog.main.file:Str) == ("/claim/cut.py" : Str))=true) (htop:(prog.main.scope.names.lookup ("super" : Str)).isSome=false)
  (F:Fr h0 L s.heap m) (hL:L=h0.objs.size) (hm:m "script"=some (.ref la)) (hl:(KZ w.params).lookup 909=some of) (hd':of.data=.func fd) (hbody:fd.body=.stmts body) (f:Fn' env fd.scope.names) (hloc:env.locals=L) (hcells:env.cells=[]) (hk:env.kindOf "script"=some .local)
  (rm:Rm A 20) (tk:0<s.toks) (h:∀ h' tk,(∀ b o,h0.get? b=some o→h'.get? b=some o)→Q (.ret (.bool true)) { s with heap:=h',toks:=tk }):wpAny (model prog w) A (execs body env) Q E s:=by
 subst hL
 let B:Base:={ prog:=prog,w:=w,h₁:=h0,mg:=mg,mb:=mb,g:=T.g,b:=T.b,lim:=T.nolimit,bb:=fun x v e n=>(T.builtins x n).trans e }
 have hsys:∀ a,B.h₁.get? a=none→(a == sysModules)=false:=fun a ha=>by
  rw [beq_eq_false_iff_ne]
  rintro rfl
  obtain ⟨_,⟨_,_,_,e,_⟩,_⟩:=(T.seer hp).mods
  have ha:h0.get? sysModules=none:=ha
  rw [ha] at e;cases e
 have fr:h0.get? h0.objs.size=none:=none_size _ (Nat.le_refl _)
 have rd:Rd (fun b=>b=env.locals) h0 (.ref la) (.list (ns.map .int)):=by
  rw [ofPy] at hw
  cases hw with
  | list e r=>exact .list (fun k=>by rw [hloc] at k;rw [k,fr] at e;cases e) e ⟨rfl,rfl,rfl⟩ rfl (by simpa using wellAll_rd r)
 have q:View (B.sys (fun _u=>False) fun _u k=>k.elim) (fun b=>b=env.locals) env s.heap [("script",.d (.list (ns.map .int)))] (fun _u=>none):=by
  refine ⟨F.keep,⟨fun _u k=>k.elim,fun a e=>?_⟩,⟨m,by rw [hloc];exact F.ns,fun p hp=>?_⟩,fun x c e=>?_,by rw [hcells];exact .nil,⟨rfl,id⟩,fun x c e=>?_,fun _u k=>k.elim⟩
  ·subst e
   rw [hloc]
   exact ⟨fr,by obtain ⟨o,_,_,e,_⟩:=F.ns;exact ⟨o,e⟩⟩
  ·rw [List.mem_singleton.mp hp]
   exact ⟨_,Rd.grow (X:=fun _u=>False) (.of F.keep) (fun _u k=>k.elim) rd,.inl ⟨hk,hm⟩⟩
  ·rw [hcells] at e;cases e
  rw [hcells] at e;cases e
 refine (c_lawbody (B:=B) KX hsys hfile htop (ns:=ns) (by walk_at "o") of fd body hl hd' hbody env f).run _ A s Q E ⟨rm,tk⟩ q fun h' tk g=>h h' tk fun b o e=>g b o (F.keep b o e) fun k=>?_
 rcases k with k | k | ⟨y,k⟩
 exact k
 ·rw [k,hloc,fr] at e;cases e
 rw [hcells] at k;cases k
end
section
set_option tactic.hygienic true in
theorem sub_all {K K':Params→Frag} (e:∀ P,((K P).map fun p=>List.lookup p.1 (K' P))=(K P).map fun p=>some p.2) {P:Params} {h:Heap} (X:(K' P).In h):(K P).In h:=by
 intro a o q
 refine X a o ?_
 have:∀ {l:Frag},(l.map fun p=>List.lookup p.1 (K' P))=(l.map fun p=>some p.2)→List.lookup a l=some o→List.lookup a (K' P)=some o:=by
  intro l
  induction l with
  | nil=>intro _ h;cases h
  | cons p l ih=>
   intro e q
   obtain ⟨b,x⟩:=p
   rw [List.map_cons,List.map_cons,List.cons.injEq] at e
   rw [List.lookup_cons] at q
   split at q
   ·rename_i hb
    cases q
    rw [beq_iff_eq.mp hb];exact e.1
   exact ih e.2 q
 exact this (e P) q
end
end
end Nz
namespace Nz.fin
theorem tw48820673751990230:True:=⟨⟩
theorem tw49640081437280941:True:=⟨⟩
theorem tw52618024873358823:True:=⟨⟩
theorem tw65442885315302154:True:=⟨⟩
theorem tw83777292990727970:True:=⟨⟩
theorem tw97154307715806482:True:=⟨⟩
theorem tw123058939701276381:True:=⟨⟩
theorem tw135020081820744644:True:=⟨⟩
theorem tw136036012074885674:True:=⟨⟩
theorem tw137713387397171584:True:=⟨⟩
theorem tw140774619663510574:True:=⟨⟩
theorem tw150973903147381600:True:=⟨⟩
theorem tw152740974710937511:True:=⟨⟩
theorem tw188710998103686490:True:=⟨⟩
theorem tw256058611890543543:True:=⟨⟩
theorem tw258051022007033618:True:=⟨⟩
theorem tw274445453220479455:True:=⟨⟩
theorem tw275673060766815684:True:=⟨⟩
theorem tw297191645359377362:True:=⟨⟩
theorem tw298713452446449097:True:=⟨⟩
theorem tw311183891040614158:True:=⟨⟩
theorem tw339360231870491831:True:=⟨⟩
theorem tw345466965988601955:True:=⟨⟩
theorem tw347467978778640218:True:=⟨⟩
theorem tw353450703186281559:True:=⟨⟩
theorem tw365732870361247701:True:=⟨⟩
theorem tw373834084610394278:True:=⟨⟩
theorem tw375674508503015977:True:=⟨⟩
theorem tw382656272901889179:True:=⟨⟩
theorem tw415891781093979997:True:=⟨⟩
theorem tw435348873891517212:True:=⟨⟩
theorem tw435410041097591357:True:=⟨⟩
theorem tw436980521258512876:True:=⟨⟩
theorem tw444208900750734543:True:=⟨⟩
theorem tw454301448354597723:True:=⟨⟩
theorem tw468090724693422258:True:=⟨⟩
theorem tw481470817721322589:True:=⟨⟩
theorem tw503918792551071016:True:=⟨⟩
theorem tw530150620235848714:True:=⟨⟩
theorem tw545559277726846364:True:=⟨⟩
theorem tw548182380430622239:True:=⟨⟩
theorem tw577904374665711752:True:=⟨⟩
theorem tw597610577690994538:True:=⟨⟩
theorem tw600064017815337461:True:=⟨⟩
theorem tw629949008050016726:True:=⟨⟩
theorem tw630141577919207156:True:=⟨⟩
theorem tw643985352758482974:True:=⟨⟩
theorem tw657256069649298454:True:=⟨⟩
theorem tw673050708532471338:True:=⟨⟩
theorem tw684619526876738751:True:=⟨⟩
theorem tw705595929802386864:True:=⟨⟩
theorem tw710827258208565282:True:=⟨⟩
theorem tw717211176024228711:True:=⟨⟩
theorem tw719133602913991871:True:=⟨⟩
theorem tw721142140919074205:True:=⟨⟩
theorem tw723079229320063155:True:=⟨⟩
theorem tw733347913915474416:True:=⟨⟩
theorem tw764210855153923929:True:=⟨⟩
theorem tw773263484767645398:True:=⟨⟩
theorem tw806332354001046496:True:=⟨⟩
theorem tw808558284676096576:True:=⟨⟩
theorem tw824861998667355470:True:=⟨⟩
theorem tw852255564411859307:True:=⟨⟩
theorem tw872054750249617611:True:=⟨⟩
theorem tw882471394591416143:True:=⟨⟩
theorem tw910355143180030296:True:=⟨⟩
theorem tw910602251466563030:True:=⟨⟩
theorem tw932998159542573973:True:=⟨⟩
theorem tw952731018221421598:True:=⟨⟩
theorem tw964415242685468440:True:=⟨⟩
theorem tw981588300503664667:True:=⟨⟩
theorem tw987889436784930907:True:=⟨⟩
theorem tw988007596910504048:True:=⟨⟩
theorem tw1000901194649433656:True:=⟨⟩
theorem tw1023241254038323919:True:=⟨⟩
theorem tw1065569921605313419:True:=⟨⟩
theorem tw1066223228097771092:True:=⟨⟩
theorem tw1075658936882984010:True:=⟨⟩
theorem tw1094221620015660508:True:=⟨⟩
theorem tw1105611908820835726:True:=⟨⟩
theorem tw1107645502793287427:True:=⟨⟩
theorem tw1120003993735908212:True:=⟨⟩
theorem tw1120378783421952893:True:=⟨⟩
theorem tw1145906441116437753:True:=⟨⟩
theorem tw1151820428725274871:True:=⟨⟩
theorem tw1152814174899156618:True:=⟨⟩
theorem tw1177313643885702404:True:=⟨⟩
theorem tw1181433960395126095:True:=⟨⟩
theorem tw1181464726460907617:True:=⟨⟩
theorem tw1198526848162189473:True:=⟨⟩
theorem tw1205335540632231395:True:=⟨⟩
theorem tw1213773223063906539:True:=⟨⟩
theorem tw1252297419565197355:True:=⟨⟩
theorem tw1255818002433137498:True:=⟨⟩
theorem tw1269280052371806196:True:=⟨⟩
theorem tw1322509831037787231:True:=⟨⟩
theorem tw1365711543500661955:True:=⟨⟩
theorem tw1366254306853076022:True:=⟨⟩
theorem tw1383999300963519852:True:=⟨⟩
theorem tw1463090056821022394:True:=⟨⟩
theorem tw1482142162337074704:True:=⟨⟩
theorem tw1482595485805483946:True:=⟨⟩
theorem tw1501116686095382556:True:=⟨⟩
theorem tw1508384407377599196:True:=⟨⟩
theorem tw1522013825217745191:True:=⟨⟩
theorem tw1540138060972063976:True:=⟨⟩
theorem tw1559707603514337503:True:=⟨⟩
theorem tw1615175899533833906:True:=⟨⟩
theorem tw1644616476555203993:True:=⟨⟩
theorem tw1661744744989057207:True:=⟨⟩
theorem tw1668159844429726887:True:=⟨⟩
theorem tw1721020492413122479:True:=⟨⟩
theorem tw1723381096288782345:True:=⟨⟩
theorem tw1737429987609424864:True:=⟨⟩
theorem tw1748988073604589735:True:=⟨⟩
theorem tw1761416111420642561:True:=⟨⟩
theorem tw1768063727260195426:True:=⟨⟩
theorem tw1778687216942177339:True:=⟨⟩
theorem tw1806157770951555920:True:=⟨⟩
theorem tw1816616298081786523:True:=⟨⟩
theorem tw1827073624339758502:True:=⟨⟩
theorem tw1852474404949677258:True:=⟨⟩
theorem tw1866413645000632817:True:=⟨⟩
theorem tw1870460693259088015:True:=⟨⟩
theorem tw1883830684155267279:True:=⟨⟩
theorem tw1906405112790447304:True:=⟨⟩
theorem tw1909328441447581539:True:=⟨⟩
theorem tw1914779124855247194:True:=⟨⟩
theorem tw1925362961813161402:True:=⟨⟩
theorem tw1929568284587636810:True:=⟨⟩
theorem tw1931484712914432905:True:=⟨⟩
theorem tw1943927773516967009:True:=⟨⟩
theorem tw1950335181258109844:True:=⟨⟩
theorem tw1963135458246443578:True:=⟨⟩
theorem tw1970256627237019529:True:=⟨⟩
theorem tw1981701384378909484:True:=⟨⟩
theorem tw1987332201779475327:True:=⟨⟩
theorem tw2009325880235419121:True:=⟨⟩
theorem tw2009804477231474857:True:=⟨⟩
theorem tw2009936237920094922:True:=⟨⟩
theorem tw2014715246430502747:True:=⟨⟩
theorem tw2021832871715620107:True:=⟨⟩
theorem tw2065311278674921240:True:=⟨⟩
theorem tw2075474947370193554:True:=⟨⟩
theorem tw2087366213379689725:True:=⟨⟩
theorem tw2091667882788560502:True:=⟨⟩
theorem tw2122489652051393333:True:=⟨⟩
theorem tw2130671548007940847:True:=⟨⟩
theorem tw2136474660521754969:True:=⟨⟩
theorem tw2138431023377161673:True:=⟨⟩
theorem tw2150118750939439688:True:=⟨⟩
theorem tw2153355429202829672:True:=⟨⟩
theorem tw2160369623654547121:True:=⟨⟩
theorem tw2173669732334722212:True:=⟨⟩
theorem tw2210514567019435642:True:=⟨⟩
theorem tw2240255689601912643:True:=⟨⟩
theorem tw2268501564227979394:True:=⟨⟩
theorem tw2296020180526815728:True:=⟨⟩
theorem tw2304369632225084293:True:=⟨⟩
theorem tw2326897345881313266:True:=⟨⟩
theorem tw2366120519967903738:True:=⟨⟩
theorem tw2404589464369569583:True:=⟨⟩
theorem tw2415974309072434770:True:=⟨⟩
theorem tw2441631048929076666:True:=⟨⟩
theorem tw2464719575721273257:True:=⟨⟩
theorem tw2470554266267464180:True:=⟨⟩
theorem tw2473879899318162415:True:=⟨⟩
theorem tw2511347481621098028:True:=⟨⟩
theorem tw2536991822801541332:True:=⟨⟩
theorem tw2545360786172204696:True:=⟨⟩
theorem tw2556743798719444957:True:=⟨⟩
theorem tw2559606878173508705:True:=⟨⟩
theorem tw2563171754531167720:True:=⟨⟩
theorem tw2569398237448287400:True:=⟨⟩
theorem tw2587396755175344418:True:=⟨⟩
theorem tw2602703275967878612:True:=⟨⟩
theorem tw2624329204524413804:True:=⟨⟩
theorem tw2641993484470848222:True:=⟨⟩
theorem tw2720320897814376576:True:=⟨⟩
theorem tw2723815594422591568:True:=⟨⟩
theorem tw2766533018720633757:True:=⟨⟩
theorem tw2788100792103614622:True:=⟨⟩
theorem tw2795362538903282195:True:=⟨⟩
theorem tw2822353190958639751:True:=⟨⟩
theorem tw2825042187094482948:True:=⟨⟩
theorem tw2826505582442555539:True:=⟨⟩
theorem tw2843188130697123576:True:=⟨⟩
theorem tw2865144915260110284:True:=⟨⟩
theorem tw2867807936587827699:True:=⟨⟩
theorem tw2874691917070621557:True:=⟨⟩
theorem tw2877373098140578116:True:=⟨⟩
theorem tw2900690203868969889:True:=⟨⟩
theorem tw2901340912620533309:True:=⟨⟩
theorem tw2902514392845155109:True:=⟨⟩
theorem tw2905687345646507531:True:=⟨⟩
theorem tw2907772437446821242:True:=⟨⟩
theorem tw2932628062102567010:True:=⟨⟩
theorem tw2939106957915036458:True:=⟨⟩
theorem tw2942943138855429983:True:=⟨⟩
theorem tw2951348462721074138:True:=⟨⟩
theorem tw2970963359090920193:True:=⟨⟩
theorem tw2986734054734856885:True:=⟨⟩
theorem tw2990979102557950097:True:=⟨⟩
theorem tw3010780111510153849:True:=⟨⟩
theorem tw3019869307475861372:True:=⟨⟩
theorem tw3024002332897093800:True:=⟨⟩
theorem tw3025320795953704937:True:=⟨⟩
theorem tw3033925039161154062:True:=⟨⟩
theorem tw3039402715568614295:True:=⟨⟩
theorem tw3057933385725757808:True:=⟨⟩
theorem tw3060021291820109895:True:=⟨⟩
theorem tw3073802527826038059:True:=⟨⟩
theorem tw3084522145049483567:True:=⟨⟩
theorem tw3091957345212366970:True:=⟨⟩
theorem tw3104424840773239151:True:=⟨⟩
theorem tw3110745682791437626:True:=⟨⟩
theorem tw3116625537842572839:True:=⟨⟩
theorem tw3158107571080711177:True:=⟨⟩
theorem tw3170984859361203841:True:=⟨⟩
theorem tw3197329367868992886:True:=⟨⟩
theorem tw3207544647618286922:True:=⟨⟩
theorem tw3220817957820403896:True:=⟨⟩
theorem tw3233974827374810913:True:=⟨⟩
theorem tw3239771254099453107:True:=⟨⟩
theorem tw3251866852308900303:True:=⟨⟩
theorem tw3253373225227703928:True:=⟨⟩
theorem tw3266543757995960046:True:=⟨⟩
theorem tw3290085732162915605:True:=⟨⟩
theorem tw3294200218672621157:True:=⟨⟩
theorem tw3308255190232715284:True:=⟨⟩
theorem tw3313116270710853505:True:=⟨⟩
theorem tw3328948128264225659:True:=⟨⟩
theorem tw3333153770716346695:True:=⟨⟩
theorem tw3348165122026038940:True:=⟨⟩
theorem tw3371429969193005999:True:=⟨⟩
theorem tw3374521106492568946:True:=⟨⟩
theorem tw3379636251839527670:True:=⟨⟩
theorem tw3406325401333841528:True:=⟨⟩
theorem tw3450302528852845273:True:=⟨⟩
theorem tw3457911182655349059:True:=⟨⟩
theorem tw3463057047773863467:True:=⟨⟩
theorem tw3475585464669555454:True:=⟨⟩
theorem tw3486116424203855665:True:=⟨⟩
theorem tw3500200500293502671:True:=⟨⟩
theorem tw3505997015491965097:True:=⟨⟩
theorem tw3508624417485417168:True:=⟨⟩
theorem tw3535584170326997864:True:=⟨⟩
theorem tw3539760924437727240:True:=⟨⟩
theorem tw3545896253128698444:True:=⟨⟩
theorem tw3567807785810398774:True:=⟨⟩
theorem tw3570380184102385058:True:=⟨⟩
theorem tw3582510981286446449:True:=⟨⟩
theorem tw3582845916188086829:True:=⟨⟩
theorem tw3583860021343364394:True:=⟨⟩
theorem tw3614732755150620437:True:=⟨⟩
theorem tw3615540658378527944:True:=⟨⟩
theorem tw3630532716728795549:True:=⟨⟩
theorem tw3651821479499369145:True:=⟨⟩
theorem tw3657309638513449718:True:=⟨⟩
theorem tw3671016343793163854:True:=⟨⟩
theorem tw3693661042005474556:True:=⟨⟩
theorem tw3695944572804907929:True:=⟨⟩
theorem tw3701852136444557216:True:=⟨⟩
theorem tw3709777703477106913:True:=⟨⟩
theorem tw3734890211042178582:True:=⟨⟩
theorem tw3770298997794341258:True:=⟨⟩
theorem tw3771728000371732442:True:=⟨⟩
theorem tw3788905873393217663:True:=⟨⟩
theorem tw3803016003569535211:True:=⟨⟩
theorem tw3862292037994845600:True:=⟨⟩
theorem tw3873995613153386368:True:=⟨⟩
theorem tw3875373719368557108:True:=⟨⟩
theorem tw3879121886286133884:True:=⟨⟩
theorem tw3892087670242397012:True:=⟨⟩
theorem tw3893106025930986504:True:=⟨⟩
theorem tw3911107265686021090:True:=⟨⟩
theorem tw3930555752422389392:True:=⟨⟩
theorem tw3947420200873026332:True:=⟨⟩
theorem tw3962597090549491784:True:=⟨⟩
theorem tw3964524927502239720:True:=⟨⟩
theorem tw3997443309017235165:True:=⟨⟩
theorem tw3998269926424820729:True:=⟨⟩
theorem tw4005480310706716730:True:=⟨⟩
theorem tw4015528602472605454:True:=⟨⟩
theorem tw4040086706869974245:True:=⟨⟩
theorem tw4066908080299837320:True:=⟨⟩
theorem tw4083708082563493893:True:=⟨⟩
theorem tw4104881040183401533:True:=⟨⟩
theorem tw4112967483745215080:True:=⟨⟩
theorem tw4113413838941446215:True:=⟨⟩
theorem tw4119695242241943575:True:=⟨⟩
theorem tw4129632534486628622:True:=⟨⟩
theorem tw4135128818789250857:True:=⟨⟩
theorem tw4154441483513491349:True:=⟨⟩
theorem tw4203835638339990849:True:=⟨⟩
theorem tw4213766294274990486:True:=⟨⟩
theorem tw4239415672946394236:True:=⟨⟩
theorem tw4240032438111008787:True:=⟨⟩
theorem tw4290148256224650263:True:=⟨⟩
theorem tw4343072341413933945:True:=⟨⟩
theorem tw4354006271306500363:True:=⟨⟩
theorem tw4379859031790174889:True:=⟨⟩
theorem tw4425889081634263998:True:=⟨⟩
theorem tw4487564903420036082:True:=⟨⟩
theorem tw4492948447408208076:True:=⟨⟩
theorem tw4508356546601556444:True:=⟨⟩
theorem tw4521790176428573772:True:=⟨⟩
theorem tw4525280438766209937:True:=⟨⟩
theorem tw4532446552826490726:True:=⟨⟩
theorem tw4546129482568245603:True:=⟨⟩
theorem tw4564722693323265005:True:=⟨⟩
theorem tw4604056909639406151:True:=⟨⟩
theorem tw4605321123608347489:True:=⟨⟩
theorem tw4615803949289077857:True:=⟨⟩
theorem tw4630557452578005857:True:=⟨⟩
theorem tw4639125074015916397:True:=⟨⟩
theorem tw4662224594906940181:True:=⟨⟩
theorem tw4679135533252287887:True:=⟨⟩
theorem tw4684209886878711376:True:=⟨⟩
theorem tw4732027940796434538:True:=⟨⟩
theorem tw4736589948657361427:True:=⟨⟩
theorem tw4741603804886734274:True:=⟨⟩
theorem tw4749258279062597259:True:=⟨⟩
theorem tw4783719994702305389:True:=⟨⟩
theorem tw4787592039791497250:True:=⟨⟩
theorem tw4802750600802188812:True:=⟨⟩
theorem tw4804419663554809071:True:=⟨⟩
theorem tw4804931198320008711:True:=⟨⟩
theorem tw4826543570531890253:True:=⟨⟩
theorem tw4844998911859432341:True:=⟨⟩
theorem tw4868117181597300337:True:=⟨⟩
theorem tw4876923892077011628:True:=⟨⟩
theorem tw4881193739663753753:True:=⟨⟩
theorem tw4881436619940366702:True:=⟨⟩
theorem tw4892850286392190927:True:=⟨⟩
theorem tw4904663442122043239:True:=⟨⟩
theorem tw4951759601964033582:True:=⟨⟩
theorem tw4979465992947763435:True:=⟨⟩
theorem tw4983813533420881161:True:=⟨⟩
theorem tw4985340701998277139:True:=⟨⟩
theorem tw4987118786762961547:True:=⟨⟩
theorem tw4988083561929308848:True:=⟨⟩
theorem tw4990495347066191960:True:=⟨⟩
theorem tw5023364778879700169:True:=⟨⟩
theorem tw5054976891195923759:True:=⟨⟩
theorem tw5086776243642452872:True:=⟨⟩
theorem tw5090631708852358282:True:=⟨⟩
theorem tw5116641320275889184:True:=⟨⟩
theorem tw5142758783787006179:True:=⟨⟩
theorem tw5211457983095943059:True:=⟨⟩
theorem tw5211561573246139813:True:=⟨⟩
theorem tw5223370646243445540:True:=⟨⟩
theorem tw5227141473432661934:True:=⟨⟩
theorem tw5237740241580127592:True:=⟨⟩
theorem tw5247535160169464755:True:=⟨⟩
theorem tw5269801816232405095:True:=⟨⟩
theorem tw5287624759727302812:True:=⟨⟩
theorem tw5298401114659151783:True:=⟨⟩
theorem tw5339310636939284158:True:=⟨⟩
theorem tw5347327235485041461:True:=⟨⟩
theorem tw5374340452061615863:True:=⟨⟩
theorem tw5387582574973439295:True:=⟨⟩
theorem tw5412076456481065912:True:=⟨⟩
theorem tw5414151602803380148:True:=⟨⟩
theorem tw5418261542155911141:True:=⟨⟩
theorem tw5422905186677398497:True:=⟨⟩
theorem tw5423890069973521722:True:=⟨⟩
theorem tw5455098481058538590:True:=⟨⟩
theorem tw5457311506782509282:True:=⟨⟩
theorem tw5475621200339699866:True:=⟨⟩
theorem tw5493242628993582596:True:=⟨⟩
theorem tw5517726461870869360:True:=⟨⟩
theorem tw5550166302027004775:True:=⟨⟩
theorem tw5553860758994742930:True:=⟨⟩
theorem tw5562028594361728018:True:=⟨⟩
theorem tw5571064640168651845:True:=⟨⟩
theorem tw5610577956074087136:True:=⟨⟩
theorem tw5624675017921345140:True:=⟨⟩
theorem tw5630737691287484620:True:=⟨⟩
theorem tw5632175288477154876:True:=⟨⟩
theorem tw5636826524488029523:True:=⟨⟩
theorem tw5637324286134463343:True:=⟨⟩
theorem tw5648425130585099910:True:=⟨⟩
theorem tw5692476853509870744:True:=⟨⟩
theorem tw5708216946031808830:True:=⟨⟩
theorem tw5712542428886386485:True:=⟨⟩
theorem tw5717306744394418660:True:=⟨⟩
theorem tw5748982510624198784:True:=⟨⟩
theorem tw5754379262420667352:True:=⟨⟩
theorem tw5771145093110083730:True:=⟨⟩
theorem tw5786894277353578657:True:=⟨⟩
theorem tw5813816280055124116:True:=⟨⟩
theorem tw5815575286037875999:True:=⟨⟩
theorem tw5817971784254285198:True:=⟨⟩
theorem tw5821304080403323152:True:=⟨⟩
theorem tw5849178245797556310:True:=⟨⟩
theorem tw5851997306173734097:True:=⟨⟩
theorem tw5857578970001942030:True:=⟨⟩
theorem tw5871813986328897686:True:=⟨⟩
theorem tw5914219154873954251:True:=⟨⟩
theorem tw5929102887646770213:True:=⟨⟩
theorem tw5941302791374366562:True:=⟨⟩
theorem tw5955293293333036918:True:=⟨⟩
theorem tw5974523792242030729:True:=⟨⟩
theorem tw6019175539032329053:True:=⟨⟩
theorem tw6031738676269146861:True:=⟨⟩
theorem tw6040181354437693163:True:=⟨⟩
theorem tw6047685867782154001:True:=⟨⟩
theorem tw6059980938915303613:True:=⟨⟩
theorem tw6061987454432555438:True:=⟨⟩
theorem tw6082088523065240164:True:=⟨⟩
theorem tw6084244792178747755:True:=⟨⟩
theorem tw6090372596988993600:True:=⟨⟩
theorem tw6138454482738076207:True:=⟨⟩
theorem tw6161228256111609413:True:=⟨⟩
theorem tw6170501641950264761:True:=⟨⟩
theorem tw6191664385445598660:True:=⟨⟩
theorem tw6199886200288801549:True:=⟨⟩
theorem tw6201689301495025822:True:=⟨⟩
theorem tw6202324476715743055:True:=⟨⟩
theorem tw6249297091866003692:True:=⟨⟩
theorem tw6249533312546449401:True:=⟨⟩
theorem tw6256344842709114252:True:=⟨⟩
theorem tw6263725837517078480:True:=⟨⟩
theorem tw6282638318412075120:True:=⟨⟩
theorem tw6294424118343361792:True:=⟨⟩
theorem tw6295141106711538346:True:=⟨⟩
theorem tw6296729266149016630:True:=⟨⟩
theorem tw6323352482033367491:True:=⟨⟩
theorem tw6326417205270545341:True:=⟨⟩
theorem tw6344936101513892889:True:=⟨⟩
theorem tw6348766735633282311:True:=⟨⟩
theorem tw6349473917219034043:True:=⟨⟩
theorem tw6356150399735694661:True:=⟨⟩
theorem tw6382682798137905497:True:=⟨⟩
theorem tw6402242829126620651:True:=⟨⟩
theorem tw6415585118020501352:True:=⟨⟩
theorem tw6417097477503455540:True:=⟨⟩
theorem tw6422074537736366582:True:=⟨⟩
theorem tw6453827970247544241:True:=⟨⟩
theorem tw6461084726697344093:True:=⟨⟩
theorem tw6484098638433944726:True:=⟨⟩
theorem tw6487620369019028214:True:=⟨⟩
theorem tw6527887773048671948:True:=⟨⟩
theorem tw6531334923228698881:True:=⟨⟩
theorem tw6533067134893404410:True:=⟨⟩
theorem tw6535735057764885977:True:=⟨⟩
theorem tw6538976285210879388:True:=⟨⟩
theorem tw6550707798305971671:True:=⟨⟩
theorem tw6551091846007852786:True:=⟨⟩
theorem tw6562935014522306807:True:=⟨⟩
theorem tw6588164635764722555:True:=⟨⟩
theorem tw6619169976598530367:True:=⟨⟩
theorem tw6631149719268618241:True:=⟨⟩
theorem tw6660064903673941066:True:=⟨⟩
theorem tw6673053500339295529:True:=⟨⟩
theorem tw6687308186435565488:True:=⟨⟩
theorem tw6695219245892541770:True:=⟨⟩
theorem tw6701235504191518517:True:=⟨⟩
theorem tw6702566211231852005:True:=⟨⟩
theorem tw6705155347507409727:True:=⟨⟩
theorem tw6758746424335690430:True:=⟨⟩
theorem tw6815706766102391346:True:=⟨⟩
theorem tw6842941311136978990:True:=⟨⟩
theorem tw6869362560223042295:True:=⟨⟩
theorem tw6884577965326194950:True:=⟨⟩
theorem tw6899863037525999218:True:=⟨⟩
theorem tw6912760436343403344:True:=⟨⟩
theorem tw6931290766845751381:True:=⟨⟩
theorem tw6948337899960340933:True:=⟨⟩
theorem tw6955663131219784505:True:=⟨⟩
theorem tw6964058675976113949:True:=⟨⟩
theorem tw6969531953001758459:True:=⟨⟩
theorem tw6970224171778666754:True:=⟨⟩
theorem tw6989577467603853301:True:=⟨⟩
theorem tw6994949945896702795:True:=⟨⟩
theorem tw6996899623311243448:True:=⟨⟩
theorem tw7055850961293818444:True:=⟨⟩
theorem tw7061369790856317951:True:=⟨⟩
theorem tw7063136197435327245:True:=⟨⟩
theorem tw7101099149573008050:True:=⟨⟩
theorem tw7104815261421998629:True:=⟨⟩
theorem tw7114882070272109193:True:=⟨⟩
theorem tw7125795066335623938:True:=⟨⟩
theorem tw7126177648696885132:True:=⟨⟩
theorem tw7133349953054665035:True:=⟨⟩
theorem tw7138447599050337793:True:=⟨⟩
theorem tw7147312617200080123:True:=⟨⟩
theorem tw7152705475098500701:True:=⟨⟩
theorem tw7153935579477614658:True:=⟨⟩
theorem tw7155810564948146293:True:=⟨⟩
theorem tw7189555486775909128:True:=⟨⟩
theorem tw7189705457002831961:True:=⟨⟩
theorem tw7209629913568999757:True:=⟨⟩
theorem tw7211217829600907218:True:=⟨⟩
theorem tw7212491620278117208:True:=⟨⟩
theorem tw7224735894118861021:True:=⟨⟩
theorem tw7234485851406178669:True:=⟨⟩
theorem tw7273330840795945207:True:=⟨⟩
theorem tw7276225786829282029:True:=⟨⟩
theorem tw7290754308473374125:True:=⟨⟩
theorem tw7304477247762170071:True:=⟨⟩
theorem tw7321635305450749107:True:=⟨⟩
theorem tw7343920593176131965:True:=⟨⟩
theorem tw7363408281569735705:True:=⟨⟩
theorem tw7371098437324335548:True:=⟨⟩
theorem tw7373309559833316142:True:=⟨⟩
theorem tw7377073767478857445:True:=⟨⟩
theorem tw7404177479794187789:True:=⟨⟩
theorem tw7421293746768468648:True:=⟨⟩
theorem tw7422205638806288132:True:=⟨⟩
theorem tw7445361660534843236:True:=⟨⟩
theorem tw7476251822981273241:True:=⟨⟩
theorem tw7481623051893955611:True:=⟨⟩
theorem tw7491727366544690605:True:=⟨⟩
theorem tw7498695378289285765:True:=⟨⟩
theorem tw7508592911284380192:True:=⟨⟩
theorem tw7525161873380203197:True:=⟨⟩
theorem tw7527492044754816764:True:=⟨⟩
theorem tw7535728514867377200:True:=⟨⟩
theorem tw7537497157808121459:True:=⟨⟩
theorem tw7538965386798066831:True:=⟨⟩
theorem tw7547977788307961944:True:=⟨⟩
theorem tw7548407988990180500:True:=⟨⟩
theorem tw7549100768491818273:True:=⟨⟩
theorem tw7552525907948135030:True:=⟨⟩
theorem tw7582136745589402182:True:=⟨⟩
theorem tw7591571689890200269:True:=⟨⟩
theorem tw7599115030665722769:True:=⟨⟩
theorem tw7622820483711785477:True:=⟨⟩
theorem tw7628286203651441104:True:=⟨⟩
theorem tw7660484362632040630:True:=⟨⟩
theorem tw7667873329231517575:True:=⟨⟩
theorem tw7673277299480384928:True:=⟨⟩
theorem tw7692127506529251350:True:=⟨⟩
theorem tw7716881463848429094:True:=⟨⟩
theorem tw7718348077556096325:True:=⟨⟩
theorem tw7721139054939568109:True:=⟨⟩
theorem tw7760436983145142768:True:=⟨⟩
theorem tw7793341119216376984:True:=⟨⟩
theorem tw7803894377905693313:True:=⟨⟩
theorem tw7808474701772880814:True:=⟨⟩
theorem tw7816948174467398190:True:=⟨⟩
theorem tw7851033839656740092:True:=⟨⟩
theorem tw7857455453251834857:True:=⟨⟩
theorem tw7858916975937589568:True:=⟨⟩
theorem tw7874740691836693520:True:=⟨⟩
theorem tw7898273748381323564:True:=⟨⟩
theorem tw7899803177475296231:True:=⟨⟩
theorem tw7902896099563040709:True:=⟨⟩
theorem tw7903854597481811284:True:=⟨⟩
theorem tw7910561747245025584:True:=⟨⟩
theorem tw7917621410673980603:True:=⟨⟩
theorem tw7931633318658970656:True:=⟨⟩
theorem tw7933114496500169630:True:=⟨⟩
theorem tw7940126838548625247:True:=⟨⟩
theorem tw8001317829179273876:True:=⟨⟩
theorem tw8008868520270525928:True:=⟨⟩
theorem tw8019800681615316694:True:=⟨⟩
theorem tw8031836279811812659:True:=⟨⟩
theorem tw8049718649176875306:True:=⟨⟩
theorem tw8066549991092163694:True:=⟨⟩
theorem tw8068757417157341098:True:=⟨⟩
theorem tw8078811598187416488:True:=⟨⟩
theorem tw8085599871749962627:True:=⟨⟩
theorem tw8112552702591398837:True:=⟨⟩
theorem tw8115728695495504215:True:=⟨⟩
theorem tw8126043080552104649:True:=⟨⟩
theorem tw8135381053271558258:True:=⟨⟩
theorem tw8150052361397763422:True:=⟨⟩
theorem tw8150256485323818430:True:=⟨⟩
theorem tw8163560065885941812:True:=⟨⟩
theorem tw8198444603684714999:True:=⟨⟩
theorem tw8212404861463524686:True:=⟨⟩
theorem tw8219572268321126009:True:=⟨⟩
theorem tw8280733842511636660:True:=⟨⟩
theorem tw8292465484186838098:True:=⟨⟩
theorem tw8306242874301950019:True:=⟨⟩
theorem tw8306992829528069080:True:=⟨⟩
theorem tw8308759486232077125:True:=⟨⟩
theorem tw8309611515079445078:True:=⟨⟩
theorem tw8328697024070822806:True:=⟨⟩
theorem tw8363157121280361321:True:=⟨⟩
theorem tw8367809610289585493:True:=⟨⟩
theorem tw8383299448577702958:True:=⟨⟩
theorem tw8388756566441007258:True:=⟨⟩
theorem tw8394005894745556265:True:=⟨⟩
theorem tw8428256210414911390:True:=⟨⟩
theorem tw8465007873601764287:True:=⟨⟩
theorem tw8468539258144424087:True:=⟨⟩
theorem tw8469142713111508713:True:=⟨⟩
theorem tw8470035487754346594:True:=⟨⟩
theorem tw8481549846657615413:True:=⟨⟩
theorem tw8493697441048728742:True:=⟨⟩
theorem tw8542378599807752997:True:=⟨⟩
theorem tw8545775288829060233:True:=⟨⟩
theorem tw8553439970745021015:True:=⟨⟩
theorem tw8556906880585173282:True:=⟨⟩
theorem tw8558653243808545410:True:=⟨⟩
theorem tw8596645140631134028:True:=⟨⟩
theorem tw8597983958435021659:True:=⟨⟩
theorem tw8600631861023661539:True:=⟨⟩
theorem tw8618323504732138857:True:=⟨⟩
theorem tw8631260763701659754:True:=⟨⟩
theorem tw8638325272679081072:True:=⟨⟩
theorem tw8652398307948331952:True:=⟨⟩
theorem tw8674272856437964738:True:=⟨⟩
theorem tw8689012275169261552:True:=⟨⟩
theorem tw8690776791624056563:True:=⟨⟩
theorem tw8692984868688371343:True:=⟨⟩
theorem tw8694700070359039433:True:=⟨⟩
theorem tw8697091793371855834:True:=⟨⟩
theorem tw8711566574908759345:True:=⟨⟩
theorem tw8713720989766172242:True:=⟨⟩
theorem tw8718809144898145251:True:=⟨⟩
theorem tw8725513889095476959:True:=⟨⟩
theorem tw8741791832249334084:True:=⟨⟩
theorem tw8745275765912395887:True:=⟨⟩
theorem tw8759397032331305294:True:=⟨⟩
theorem tw8774750188567552342:True:=⟨⟩
theorem tw8801067943621296790:True:=⟨⟩
theorem tw8820387737547335407:True:=⟨⟩
theorem tw8840316640697562859:True:=⟨⟩
theorem tw8847349302427019752:True:=⟨⟩
theorem tw8876875111191524490:True:=⟨⟩
theorem tw8902484916657726214:True:=⟨⟩
theorem tw8905472526448434080:True:=⟨⟩
theorem tw8911060567556337461:True:=⟨⟩
theorem tw8923784562677112623:True:=⟨⟩
theorem tw8929463915834637362:True:=⟨⟩
theorem tw8936753442427143911:True:=⟨⟩
theorem tw8937114180328736558:True:=⟨⟩
theorem tw8947900485961066167:True:=⟨⟩
theorem tw8983877683942108973:True:=⟨⟩
theorem tw8998175327360081443:True:=⟨⟩
theorem tw9004222567600135204:True:=⟨⟩
theorem tw9006464623919941786:True:=⟨⟩
theorem tw9010653172918569906:True:=⟨⟩
theorem tw9054136280516234586:True:=⟨⟩
theorem tw9161188008079471087:True:=⟨⟩
theorem tw9248485048588161935:True:=⟨⟩
theorem tw9250348775755242831:True:=⟨⟩
theorem tw9259020300218274034:True:=⟨⟩
theorem tw9275735096102203677:True:=⟨⟩
theorem tw9282871561281989864:True:=⟨⟩
theorem tw9283517648596886570:True:=⟨⟩
theorem tw9287711643842406799:True:=⟨⟩
theorem tw9303116997055727769:True:=⟨⟩
theorem tw9306687128081764415:True:=⟨⟩
theorem tw9306837282611693051:True:=⟨⟩
theorem tw9343849966529793262:True:=⟨⟩
theorem tw9344770903583864783:True:=⟨⟩
theorem tw9362101597212033771:True:=⟨⟩
theorem tw9383729203979204681:True:=⟨⟩
theorem tw9392685076626582285:True:=⟨⟩
theorem tw9398428768247276469:True:=⟨⟩
theorem tw9443356547781981327:True:=⟨⟩
theorem tw9443517545398743566:True:=⟨⟩
theorem tw9459004685089283275:True:=⟨⟩
theorem tw9459339849062886874:True:=⟨⟩
theorem tw9473521682726802247:True:=⟨⟩
theorem tw9475312643435443500:True:=⟨⟩
theorem tw9485445455471072132:True:=⟨⟩
theorem tw9486922472781770343:True:=⟨⟩
theorem tw9491307476594126791:True:=⟨⟩
theorem tw9492632344104060868:True:=⟨⟩
theorem tw9495989819746804671:True:=⟨⟩
theorem tw9506100835516319383:True:=⟨⟩
theorem tw9507065506722371476:True:=⟨⟩
theorem tw9529248406259333858:True:=⟨⟩
theorem tw9579661738812430287:True:=⟨⟩
theorem tw9583425097370972965:True:=⟨⟩
theorem tw9599382200423943038:True:=⟨⟩
theorem tw9608658044649236123:True:=⟨⟩
theorem tw9619002594819393213:True:=⟨⟩
theorem tw9647764217040322628:True:=⟨⟩
theorem tw9659242435096719799:True:=⟨⟩
theorem tw9660819425690889489:True:=⟨⟩
theorem tw9669124150503235116:True:=⟨⟩
theorem tw9680483755280958847:True:=⟨⟩
theorem tw9681291045024351483:True:=⟨⟩
theorem tw9687215395167772011:True:=⟨⟩
theorem tw9687972800624857726:True:=⟨⟩
theorem tw9688951594004900308:True:=⟨⟩
theorem tw9709053749960999543:True:=⟨⟩
theorem tw9735930602655517599:True:=⟨⟩
theorem tw9750409312942265873:True:=⟨⟩
theorem tw9817234969876837874:True:=⟨⟩
theorem tw9817959672993448241:True:=⟨⟩
theorem tw9819194742575219528:True:=⟨⟩
theorem tw9831235934829093771:True:=⟨⟩
theorem tw9838536772060440365:True:=⟨⟩
theorem tw9839789295753088945:True:=⟨⟩
theorem tw9868973158565458649:True:=⟨⟩
theorem tw9876629320175630478:True:=⟨⟩
theorem tw9896611294324270762:True:=⟨⟩
theorem tw9922014125547600874:True:=⟨⟩
theorem tw9938705856287678410:True:=⟨⟩
theorem tw10008034162475221273:True:=⟨⟩
theorem tw10027037265541546950:True:=⟨⟩
theorem tw10027273836194952097:True:=⟨⟩
theorem tw10080191904828234091:True:=⟨⟩
theorem tw10091338538925745443:True:=⟨⟩
theorem tw10101255121540959421:True:=⟨⟩
theorem tw10124192517632014989:True:=⟨⟩
theorem tw10124462932644142758:True:=⟨⟩
theorem tw10130448805354685739:True:=⟨⟩
theorem tw10136339505276395482:True:=⟨⟩
theorem tw10151075332985879643:True:=⟨⟩
theorem tw10155943976349786897:True:=⟨⟩
theorem tw10172460594184241434:True:=⟨⟩
theorem tw10184028126180110472:True:=⟨⟩
theorem tw10199327059132944598:True:=⟨⟩
theorem tw10200149785609040085:True:=⟨⟩
theorem tw10203273129138145563:True:=⟨⟩
theorem tw10214583405318946050:True:=⟨⟩
theorem tw10221190667702069317:True:=⟨⟩
theorem tw10245808860716575677:True:=⟨⟩
theorem tw10249755115921684219:True:=⟨⟩
theorem tw10268280271459698920:True:=⟨⟩
theorem tw10271139505839813502:True:=⟨⟩
theorem tw10285719142147952178:True:=⟨⟩
theorem tw10286838601001703647:True:=⟨⟩
theorem tw10287205445841307645:True:=⟨⟩
theorem tw10293553119583460878:True:=⟨⟩
theorem tw10306651372545762471:True:=⟨⟩
theorem tw10308720216484025704:True:=⟨⟩
theorem tw10311075715484203932:True:=⟨⟩
theorem tw10318446940505143699:True:=⟨⟩
theorem tw10329532007391949332:True:=⟨⟩
theorem tw10362723639852758963:True:=⟨⟩
theorem tw10371656746980635457:True:=⟨⟩
theorem tw10374248898070790097:True:=⟨⟩
theorem tw10409418061816071688:True:=⟨⟩
theorem tw10409778677915408461:True:=⟨⟩
theorem tw10483319493099733032:True:=⟨⟩
theorem tw10500597445419395122:True:=⟨⟩
theorem tw10511783735962481390:True:=⟨⟩
theorem tw10561786729209735719:True:=⟨⟩
theorem tw10569439292111935947:True:=⟨⟩
theorem tw10596820330616614490:True:=⟨⟩
theorem tw10611740488434171986:True:=⟨⟩
theorem tw10640520812435599436:True:=⟨⟩
theorem tw10646586435606218977:True:=⟨⟩
theorem tw10649254673707525542:True:=⟨⟩
theorem tw10667014437599882510:True:=⟨⟩
theorem tw10682405171318867040:True:=⟨⟩
theorem tw10684927355242433177:True:=⟨⟩
theorem tw10698166656484373205:True:=⟨⟩
theorem tw10752478364764922085:True:=⟨⟩
theorem tw10760534512755139638:True:=⟨⟩
theorem tw10777167443832024530:True:=⟨⟩
theorem tw10819640773318881171:True:=⟨⟩
theorem tw10833586154037033716:True:=⟨⟩
theorem tw10833791083149074840:True:=⟨⟩
theorem tw10875823815791652683:True:=⟨⟩
theorem tw10894038179198684163:True:=⟨⟩
theorem tw10967793730585383019:True:=⟨⟩
theorem tw10971624448878442620:True:=⟨⟩
theorem tw10988091740628942620:True:=⟨⟩
theorem tw10988141565888924587:True:=⟨⟩
theorem tw11006897669661676284:True:=⟨⟩
theorem tw11012660508948360138:True:=⟨⟩
theorem tw11033612534639793344:True:=⟨⟩
theorem tw11067050437757084843:True:=⟨⟩
theorem tw11081992333067156519:True:=⟨⟩
theorem tw11099461658229213138:True:=⟨⟩
theorem tw11137571999615342039:True:=⟨⟩
theorem tw11139047296303003206:True:=⟨⟩
theorem tw11169112974651986190:True:=⟨⟩
theorem tw11169697121703395893:True:=⟨⟩
theorem tw11176733147203299603:True:=⟨⟩
theorem tw11177822379641771266:True:=⟨⟩
theorem tw11182862309701950081:True:=⟨⟩
theorem tw11197806235135537994:True:=⟨⟩
theorem tw11239606760557828714:True:=⟨⟩
theorem tw11253322368658650969:True:=⟨⟩
theorem tw11264857581801199507:True:=⟨⟩
theorem tw11284481282841056489:True:=⟨⟩
theorem tw11316810569243963368:True:=⟨⟩
theorem tw11348214275566838905:True:=⟨⟩
theorem tw11349339641329901029:True:=⟨⟩
theorem tw11369207148312443578:True:=⟨⟩
theorem tw11371683536886904380:True:=⟨⟩
theorem tw11377715054858220583:True:=⟨⟩
theorem tw11384593390762837283:True:=⟨⟩
theorem tw11385268127956484193:True:=⟨⟩
theorem tw11385605460312436248:True:=⟨⟩
theorem tw11423763860405299782:True:=⟨⟩
theorem tw11457766394335218794:True:=⟨⟩
theorem tw11473209002035752829:True:=⟨⟩
theorem tw11476644637934139322:True:=⟨⟩
theorem tw11495419249226103992:True:=⟨⟩
theorem tw11513447137992281429:True:=⟨⟩
theorem tw11522514612699230276:True:=⟨⟩
theorem tw11527002850390275620:True:=⟨⟩
theorem tw11538353160939992130:True:=⟨⟩
theorem tw11565095508575590059:True:=⟨⟩
theorem tw11578230470600620267:True:=⟨⟩
theorem tw11586586033985539954:True:=⟨⟩
theorem tw11592497548059288691:True:=⟨⟩
theorem tw11616382707134199698:True:=⟨⟩
theorem tw11627811484108038671:True:=⟨⟩
theorem tw11628222250495317010:True:=⟨⟩
theorem tw11628725291932942751:True:=⟨⟩
theorem tw11630107591930377154:True:=⟨⟩
theorem tw11643115023224482371:True:=⟨⟩
theorem tw11646097435669421730:True:=⟨⟩
theorem tw11682027164077311139:True:=⟨⟩
theorem tw11703684799287666851:True:=⟨⟩
theorem tw11712978275741047774:True:=⟨⟩
theorem tw11761598751091471896:True:=⟨⟩
theorem tw11795250786401785404:True:=⟨⟩
theorem tw11822251830255957883:True:=⟨⟩
theorem tw11835205391237552399:True:=⟨⟩
theorem tw11846987138355688095:True:=⟨⟩
theorem tw11878012801397483868:True:=⟨⟩
theorem tw11881690506844789124:True:=⟨⟩
theorem tw11917421187239640201:True:=⟨⟩
theorem tw11941107276854358132:True:=⟨⟩
theorem tw11946792567331766839:True:=⟨⟩
theorem tw11965025217294635817:True:=⟨⟩
theorem tw11975648801108183860:True:=⟨⟩
theorem tw11989468562520934839:True:=⟨⟩
theorem tw11995000171281844535:True:=⟨⟩
theorem tw12018553109362614599:True:=⟨⟩
theorem tw12020004787963672866:True:=⟨⟩
theorem tw12030720578738687205:True:=⟨⟩
theorem tw12048419888734215571:True:=⟨⟩
theorem tw12055305548688441444:True:=⟨⟩
theorem tw12067116186171516446:True:=⟨⟩
theorem tw12071307065040571698:True:=⟨⟩
theorem tw12092262522929185951:True:=⟨⟩
theorem tw12104320393946282280:True:=⟨⟩
theorem tw12105069628614529335:True:=⟨⟩
theorem tw12107068288529319140:True:=⟨⟩
theorem tw12117860236202357815:True:=⟨⟩
theorem tw12120410669963380462:True:=⟨⟩
theorem tw12137369453895955328:True:=⟨⟩
theorem tw12149473101613013072:True:=⟨⟩
theorem tw12155941639648901759:True:=⟨⟩
theorem tw12177350081560796711:True:=⟨⟩
theorem tw12185695380037823193:True:=⟨⟩
theorem tw12205997948817610030:True:=⟨⟩
theorem tw12228196322691891554:True:=⟨⟩
theorem tw12236659044328551440:True:=⟨⟩
theorem tw12254608761128226084:True:=⟨⟩
theorem tw12258139430032208039:True:=⟨⟩
theorem tw12267957428745383469:True:=⟨⟩
theorem tw12285017516597002164:True:=⟨⟩
theorem tw12306994655163113496:True:=⟨⟩
theorem tw12365121968641136480:True:=⟨⟩
theorem tw12365670317747304370:True:=⟨⟩
theorem tw12377181352331567274:True:=⟨⟩
theorem tw12394036738197491505:True:=⟨⟩
theorem tw12401125772925162558:True:=⟨⟩
theorem tw12412569421630486066:True:=⟨⟩
theorem tw12453471421593712365:True:=⟨⟩
theorem tw12455912779751887284:True:=⟨⟩
theorem tw12459930855864290161:True:=⟨⟩
theorem tw12464372980448193938:True:=⟨⟩
theorem tw12470514685332617900:True:=⟨⟩
theorem tw12496006285119641517:True:=⟨⟩
theorem tw12503213028663195924:True:=⟨⟩
theorem tw12507097640985400762:True:=⟨⟩
theorem tw12530377770765053003:True:=⟨⟩
theorem tw12531130004770650310:True:=⟨⟩
theorem tw12537188958158260358:True:=⟨⟩
theorem tw12540006012076162325:True:=⟨⟩
theorem tw12548309772817375313:True:=⟨⟩
theorem tw12578501403765364452:True:=⟨⟩
theorem tw12591419803044381652:True:=⟨⟩
theorem tw12615376714049457825:True:=⟨⟩
theorem tw12624204375794364472:True:=⟨⟩
theorem tw12631333393414634153:True:=⟨⟩
theorem tw12632357404277211819:True:=⟨⟩
theorem tw12643074710895728736:True:=⟨⟩
theorem tw12647582692459884808:True:=⟨⟩
theorem tw12648555616180629854:True:=⟨⟩
theorem tw12667527214576061944:True:=⟨⟩
theorem tw12682477742001159099:True:=⟨⟩
theorem tw12696469505811749505:True:=⟨⟩
theorem tw12711926405276403305:True:=⟨⟩
theorem tw12712544470000232486:True:=⟨⟩
theorem tw12729378287065784291:True:=⟨⟩
theorem tw12733043879726583731:True:=⟨⟩
theorem tw12791014265896543971:True:=⟨⟩
theorem tw12797186233993262248:True:=⟨⟩
theorem tw12802752505277569056:True:=⟨⟩
theorem tw12844155463620646314:True:=⟨⟩
theorem tw12863387648228070336:True:=⟨⟩
theorem tw12887487177978763730:True:=⟨⟩
theorem tw12895551690080641193:True:=⟨⟩
theorem tw12907296374467846053:True:=⟨⟩
theorem tw12909247505401268987:True:=⟨⟩
theorem tw12923829760620696258:True:=⟨⟩
theorem tw12936708732796595077:True:=⟨⟩
theorem tw12940847465565186371:True:=⟨⟩
theorem tw12946182431712405486:True:=⟨⟩
theorem tw12954957271333214631:True:=⟨⟩
theorem tw12973085869602233855:True:=⟨⟩
theorem tw12978570734318131412:True:=⟨⟩
theorem tw12994400824810762551:True:=⟨⟩
theorem tw13078757453275262611:True:=⟨⟩
theorem tw13093114947356347321:True:=⟨⟩
theorem tw13095446258292287787:True:=⟨⟩
theorem tw13115115195558810262:True:=⟨⟩
theorem tw13116814959976498249:True:=⟨⟩
theorem tw13132101018438054818:True:=⟨⟩
theorem tw13162239066408338954:True:=⟨⟩
theorem tw13185133953734795972:True:=⟨⟩
theorem tw13214809416759343774:True:=⟨⟩
theorem tw13235091352986515506:True:=⟨⟩
theorem tw13299469409006903067:True:=⟨⟩
theorem tw13302889851997313298:True:=⟨⟩
theorem tw13307473373199449382:True:=⟨⟩
theorem tw13312988058846691573:True:=⟨⟩
theorem tw13317539029022359824:True:=⟨⟩
theorem tw13355326039920705532:True:=⟨⟩
theorem tw13371276344805933661:True:=⟨⟩
theorem tw13375544902049777628:True:=⟨⟩
theorem tw13420965286269227523:True:=⟨⟩
theorem tw13423161730925379757:True:=⟨⟩
theorem tw13441695516911823848:True:=⟨⟩
theorem tw13444592229995057073:True:=⟨⟩
theorem tw13445051372705615517:True:=⟨⟩
theorem tw13467615691024513653:True:=⟨⟩
theorem tw13471826297903888034:True:=⟨⟩
theorem tw13472811786515530792:True:=⟨⟩
theorem tw13475071030937412561:True:=⟨⟩
theorem tw13477761962615335879:True:=⟨⟩
theorem tw13478147473481998039:True:=⟨⟩
theorem tw13485880876594084038:True:=⟨⟩
theorem tw13489301450530189109:True:=⟨⟩
theorem tw13493010224411471888:True:=⟨⟩
theorem tw13550542536908743967:True:=⟨⟩
theorem tw13573643235704841806:True:=⟨⟩
theorem tw13576645018257464086:True:=⟨⟩
theorem tw13584159405715521882:True:=⟨⟩
theorem tw13587922614251851216:True:=⟨⟩
theorem tw13596088040131872673:True:=⟨⟩
theorem tw13621797835227320861:True:=⟨⟩
theorem tw13623762940168739191:True:=⟨⟩
theorem tw13632112340211847547:True:=⟨⟩
theorem tw13639517756746136008:True:=⟨⟩
theorem tw13659907685965412246:True:=⟨⟩
theorem tw13661603919258685523:True:=⟨⟩
theorem tw13674131889523603573:True:=⟨⟩
theorem tw13676596335913405548:True:=⟨⟩
theorem tw13686916340278423720:True:=⟨⟩
theorem tw13696176735456858825:True:=⟨⟩
theorem tw13698235347591095520:True:=⟨⟩
theorem tw13708187500193831191:True:=⟨⟩
theorem tw13737641059394498763:True:=⟨⟩
theorem tw13743958257592070921:True:=⟨⟩
theorem tw13753938354790603353:True:=⟨⟩
theorem tw13755127327621617031:True:=⟨⟩
theorem tw13756481965534197799:True:=⟨⟩
theorem tw13783568029986148843:True:=⟨⟩
theorem tw13812067780262537214:True:=⟨⟩
theorem tw13815174996516367681:True:=⟨⟩
theorem tw13828273919565694099:True:=⟨⟩
theorem tw13830021333344850322:True:=⟨⟩
theorem tw13852631020718556184:True:=⟨⟩
theorem tw13881372046213732748:True:=⟨⟩
theorem tw13892004253355561243:True:=⟨⟩
theorem tw13934014758177810264:True:=⟨⟩
theorem tw13968750688958923741:True:=⟨⟩
theorem tw13969188327521370649:True:=⟨⟩
theorem tw14010766809253077455:True:=⟨⟩
theorem tw14020020478383766662:True:=⟨⟩
theorem tw14020078579729946868:True:=⟨⟩
theorem tw14031466431519417194:True:=⟨⟩
theorem tw14046103182970699447:True:=⟨⟩
theorem tw14069400733636157525:True:=⟨⟩
theorem tw14069804231919669030:True:=⟨⟩
theorem tw14078937462814125827:True:=⟨⟩
theorem tw14099959355258651795:True:=⟨⟩
theorem tw14127234962461219249:True:=⟨⟩
theorem tw14131100207843012502:True:=⟨⟩
theorem tw14131197501902863015:True:=⟨⟩
theorem tw14141480558671786862:True:=⟨⟩
theorem tw14146875045726175942:True:=⟨⟩
theorem tw14147092755337923508:True:=⟨⟩
theorem tw14149410030845227846:True:=⟨⟩
theorem tw14177698524723576661:True:=⟨⟩
theorem tw14223742033574190565:True:=⟨⟩
theorem tw14242272198949071532:True:=⟨⟩
theorem tw14248002201154365776:True:=⟨⟩
theorem tw14264524979559699532:True:=⟨⟩
theorem tw14280194483082592990:True:=⟨⟩
theorem tw14293136993099244005:True:=⟨⟩
theorem tw14295446280001941223:True:=⟨⟩
theorem tw14318520220724564758:True:=⟨⟩
theorem tw14326522779092111347:True:=⟨⟩
theorem tw14370026094790280044:True:=⟨⟩
theorem tw14384682598590994281:True:=⟨⟩
theorem tw14390813787980079877:True:=⟨⟩
theorem tw14403292087940642222:True:=⟨⟩
theorem tw14409964231519240198:True:=⟨⟩
theorem tw14413870041926187256:True:=⟨⟩
theorem tw14426376828911814856:True:=⟨⟩
theorem tw14427516834843284579:True:=⟨⟩
theorem tw14432158134513172346:True:=⟨⟩
theorem tw14449622519745178389:True:=⟨⟩
theorem tw14464813196540152905:True:=⟨⟩
theorem tw14487313526952757521:True:=⟨⟩
theorem tw14516334961917653867:True:=⟨⟩
theorem tw14533096635092923303:True:=⟨⟩
theorem tw14567660680305168648:True:=⟨⟩
theorem tw14570993284889482014:True:=⟨⟩
theorem tw14591961266272173499:True:=⟨⟩
theorem tw14594388177776117333:True:=⟨⟩
theorem tw14609336177691303769:True:=⟨⟩
theorem tw14612275285274897902:True:=⟨⟩
theorem tw14613720989304006166:True:=⟨⟩
theorem tw14650653568965482714:True:=⟨⟩
theorem tw14682045401367036461:True:=⟨⟩
theorem tw14714184292004809748:True:=⟨⟩
theorem tw14749726712920665642:True:=⟨⟩
theorem tw14762740066049326463:True:=⟨⟩
theorem tw14765907029121204867:True:=⟨⟩
theorem tw14768859852128589848:True:=⟨⟩
theorem tw14770057127976126716:True:=⟨⟩
theorem tw14774326914650953350:True:=⟨⟩
theorem tw14832267765984233350:True:=⟨⟩
theorem tw14836701904591495496:True:=⟨⟩
theorem tw14851834105321355263:True:=⟨⟩
theorem tw14868750649270672545:True:=⟨⟩
theorem tw14873459047593357206:True:=⟨⟩
theorem tw14884907559217313102:True:=⟨⟩
theorem tw14921183855093522861:True:=⟨⟩
theorem tw14934101738269581809:True:=⟨⟩
theorem tw14996344200721010130:True:=⟨⟩
theorem tw14996382025038067403:True:=⟨⟩
theorem tw15015935198573137087:True:=⟨⟩
theorem tw15022598169539343285:True:=⟨⟩
theorem tw15026834844778750937:True:=⟨⟩
theorem tw15040402542068657471:True:=⟨⟩
theorem tw15046762518826441076:True:=⟨⟩
theorem tw15056197407766641888:True:=⟨⟩
theorem tw15063324589681748704:True:=⟨⟩
theorem tw15069731197109354467:True:=⟨⟩
theorem tw15077363024452402585:True:=⟨⟩
theorem tw15086616427043747736:True:=⟨⟩
theorem tw15112648632714951016:True:=⟨⟩
theorem tw15138366421152848767:True:=⟨⟩
theorem tw15142140045347113986:True:=⟨⟩
theorem tw15144814481030631167:True:=⟨⟩
theorem tw15199694083513014528:True:=⟨⟩
theorem tw15218862540655829735:True:=⟨⟩
theorem tw15261035674470910888:True:=⟨⟩
theorem tw15284468082961610964:True:=⟨⟩
theorem tw15293786540774945509:True:=⟨⟩
theorem tw15300973364229032887:True:=⟨⟩
theorem tw15311539594676890418:True:=⟨⟩
theorem tw15312277561954907612:True:=⟨⟩
theorem tw15320894456557085594:True:=⟨⟩
theorem tw15334295367861418410:True:=⟨⟩
theorem tw15380541389832510279:True:=⟨⟩
theorem tw15411436988560584105:True:=⟨⟩
theorem tw15417255050309183443:True:=⟨⟩
theorem tw15444198926804054533:True:=⟨⟩
theorem tw15447572981750280162:True:=⟨⟩
theorem tw15478355033453446459:True:=⟨⟩
theorem tw15502040305997398299:True:=⟨⟩
theorem tw15505741487263997771:True:=⟨⟩
theorem tw15530444012792816098:True:=⟨⟩
theorem tw15531840659504612283:True:=⟨⟩
theorem tw15547009226893487220:True:=⟨⟩
theorem tw15549913502075819818:True:=⟨⟩
theorem tw15573826323101507876:True:=⟨⟩
theorem tw15583839796462417333:True:=⟨⟩
theorem tw15608693619277482213:True:=⟨⟩
theorem tw15621290836585370307:True:=⟨⟩
theorem tw15627119283664398016:True:=⟨⟩
theorem tw15628608398468043809:True:=⟨⟩
theorem tw15715436800616256990:True:=⟨⟩
theorem tw15727003241413025385:True:=⟨⟩
theorem tw15729992308648774959:True:=⟨⟩
theorem tw15730369041788190921:True:=⟨⟩
theorem tw15768051176613753233:True:=⟨⟩
theorem tw15771700062295292039:True:=⟨⟩
theorem tw15786786577772544027:True:=⟨⟩
theorem tw15804413737228636332:True:=⟨⟩
theorem tw15847576269496291645:True:=⟨⟩
theorem tw15849876107617110238:True:=⟨⟩
theorem tw15854319366736916403:True:=⟨⟩
theorem tw15856058174174956905:True:=⟨⟩
theorem tw15859929136768439663:True:=⟨⟩
theorem tw15868946636925316275:True:=⟨⟩
theorem tw15891604925193508874:True:=⟨⟩
theorem tw15910881542075193002:True:=⟨⟩
theorem tw15954074196073071720:True:=⟨⟩
theorem tw15974693413073491180:True:=⟨⟩
theorem tw15975561475889535456:True:=⟨⟩
theorem tw15981524171513717144:True:=⟨⟩
theorem tw15982803811527660875:True:=⟨⟩
theorem tw16016717421011164960:True:=⟨⟩
theorem tw16029724965558871409:True:=⟨⟩
theorem tw16031247263586798285:True:=⟨⟩
theorem tw16032429165106002827:True:=⟨⟩
theorem tw16043729874231729598:True:=⟨⟩
theorem tw16057174297423000233:True:=⟨⟩
theorem tw16121836901868277801:True:=⟨⟩
theorem tw16128211046556697687:True:=⟨⟩
theorem tw16140040941549787585:True:=⟨⟩
theorem tw16170904282062984773:True:=⟨⟩
theorem tw16206100887391984348:True:=⟨⟩
theorem tw16222836683138598848:True:=⟨⟩
theorem tw16257114388669358782:True:=⟨⟩
theorem tw16282889599154605665:True:=⟨⟩
theorem tw16289966133273976299:True:=⟨⟩
theorem tw16308643128300900602:True:=⟨⟩
theorem tw16309982387631590576:True:=⟨⟩
theorem tw16330795336114714382:True:=⟨⟩
theorem tw16346024486638109647:True:=⟨⟩
theorem tw16350801051563285548:True:=⟨⟩
theorem tw16358658220890888771:True:=⟨⟩
theorem tw16373038586399880810:True:=⟨⟩
theorem tw16376014913326540941:True:=⟨⟩
theorem tw16408206510404558207:True:=⟨⟩
theorem tw16410983539107602912:True:=⟨⟩
theorem tw16415414775136611750:True:=⟨⟩
theorem tw16431408478632566859:True:=⟨⟩
theorem tw16434544454171183295:True:=⟨⟩
theorem tw16443303985202339376:True:=⟨⟩
theorem tw16449638844124839920:True:=⟨⟩
theorem tw16471027140583427486:True:=⟨⟩
theorem tw16491487241040113158:True:=⟨⟩
theorem tw16491945060651096449:True:=⟨⟩
theorem tw16495970220933035587:True:=⟨⟩
theorem tw16504964632999534713:True:=⟨⟩
theorem tw16517663499778326117:True:=⟨⟩
theorem tw16520905619369475115:True:=⟨⟩
theorem tw16527011050144383792:True:=⟨⟩
theorem tw16559250803210014787:True:=⟨⟩
theorem tw16564957072364259846:True:=⟨⟩
theorem tw16597853377976925189:True:=⟨⟩
theorem tw16602637453776714453:True:=⟨⟩
theorem tw16621911407401668464:True:=⟨⟩
theorem tw16630786020632753980:True:=⟨⟩
theorem tw16642555014453361791:True:=⟨⟩
theorem tw16656601955554536488:True:=⟨⟩
theorem tw16669114852335934972:True:=⟨⟩
theorem tw16669292969231718029:True:=⟨⟩
theorem tw16670515602330250151:True:=⟨⟩
theorem tw16673197784442056291:True:=⟨⟩
theorem tw16675575862016177583:True:=⟨⟩
theorem tw16684406179423273235:True:=⟨⟩
theorem tw16731586950071784519:True:=⟨⟩
theorem tw16743433158178912393:True:=⟨⟩
theorem tw16750961368130750459:True:=⟨⟩
theorem tw16755118003507374354:True:=⟨⟩
theorem tw16756556668992706876:True:=⟨⟩
theorem tw16761479098532513021:True:=⟨⟩
theorem tw16787023816139426643:True:=⟨⟩
theorem tw16821246176013261175:True:=⟨⟩
theorem tw16833869131081997061:True:=⟨⟩
theorem tw16854474984208197730:True:=⟨⟩
theorem tw16860616021133143293:True:=⟨⟩
theorem tw16863653862804832013:True:=⟨⟩
theorem tw16929378557319324403:True:=⟨⟩
theorem tw16933332537558311640:True:=⟨⟩
theorem tw16956472532261417523:True:=⟨⟩
theorem tw17024759399425927986:True:=⟨⟩
theorem tw17028185051423298048:True:=⟨⟩
theorem tw17047927200207358974:True:=⟨⟩
theorem tw17050220477940930419:True:=⟨⟩
theorem tw17053342888897171359:True:=⟨⟩
theorem tw17061423929519299578:True:=⟨⟩
theorem tw17068662474416463665:True:=⟨⟩
theorem tw17074137473615224112:True:=⟨⟩
theorem tw17093175877767195912:True:=⟨⟩
theorem tw17095140330137114765:True:=⟨⟩
theorem tw17102417499507250037:True:=⟨⟩
theorem tw17117901431358053644:True:=⟨⟩
theorem tw17120662443632208072:True:=⟨⟩
theorem tw17122238566444593593:True:=⟨⟩
theorem tw17142013266524891989:True:=⟨⟩
theorem tw17198805303117746223:True:=⟨⟩
theorem tw17201948329704674057:True:=⟨⟩
theorem tw17207212946890329133:True:=⟨⟩
theorem tw17210487649025887105:True:=⟨⟩
theorem tw17213646397574039881:True:=⟨⟩
theorem tw17220744349707659904:True:=⟨⟩
theorem tw17264176439139505634:True:=⟨⟩
theorem tw17270132846267454413:True:=⟨⟩
theorem tw17334736956684739804:True:=⟨⟩
theorem tw17367582005779873002:True:=⟨⟩
theorem tw17371150514781353993:True:=⟨⟩
theorem tw17397488443205292283:True:=⟨⟩
theorem tw17404807512513527545:True:=⟨⟩
theorem tw17408103649426700212:True:=⟨⟩
theorem tw17463345743138044876:True:=⟨⟩
theorem tw17470976003353250911:True:=⟨⟩
theorem tw17510624294377756711:True:=⟨⟩
theorem tw17513521700404032540:True:=⟨⟩
theorem tw17519119727305281833:True:=⟨⟩
theorem tw17520374376563470441:True:=⟨⟩
theorem tw17546452743586981025:True:=⟨⟩
theorem tw17546957956441820983:True:=⟨⟩
theorem tw17559835198217575270:True:=⟨⟩
theorem tw17614114000509805826:True:=⟨⟩
theorem tw17626253326711336317:True:=⟨⟩
theorem tw17640686677160693902:True:=⟨⟩
theorem tw17665107281218971605:True:=⟨⟩
theorem tw17721775982049307109:True:=⟨⟩
theorem tw17731906987593462117:True:=⟨⟩
theorem tw17759657499452516881:True:=⟨⟩
theorem tw17760776263670909096:True:=⟨⟩
theorem tw17823403206977960427:True:=⟨⟩
theorem tw17823917568288399609:True:=⟨⟩
theorem tw17828794367964566394:True:=⟨⟩
theorem tw17835384746852950492:True:=⟨⟩
theorem tw17838777406267209742:True:=⟨⟩
theorem tw17843581727415413231:True:=⟨⟩
theorem tw17845798391101788249:True:=⟨⟩
theorem tw17863376599142941534:True:=⟨⟩
theorem tw17914636018199805051:True:=⟨⟩
theorem tw17937506102906404350:True:=⟨⟩
theorem tw17968999236199240672:True:=⟨⟩
theorem tw17969874446558463852:True:=⟨⟩
theorem tw17993297812750267643:True:=⟨⟩
theorem tw18007817532450188592:True:=⟨⟩
theorem tw18030005061348476631:True:=⟨⟩
theorem tw18035454744817425681:True:=⟨⟩
theorem tw18047845298621441791:True:=⟨⟩
theorem tw18081480318585117850:True:=⟨⟩
theorem tw18130968997653344562:True:=⟨⟩
theorem tw18132973257742821568:True:=⟨⟩
theorem tw18158854186285684161:True:=⟨⟩
theorem tw18207308666202719519:True:=⟨⟩
theorem tw18207549844765513495:True:=⟨⟩
theorem tw18210505135540665935:True:=⟨⟩
theorem tw18214729753881219442:True:=⟨⟩
theorem tw18221526449288871273:True:=⟨⟩
theorem tw18225507569599886436:True:=⟨⟩
theorem tw18244277653589690406:True:=⟨⟩
theorem tw18276358773963342938:True:=⟨⟩
theorem tw18290920575260697528:True:=⟨⟩
theorem tw18301158561826151570:True:=⟨⟩
theorem tw18317501262512340805:True:=⟨⟩
theorem tw18325198337651536215:True:=⟨⟩
theorem tw18383248961786903636:True:=⟨⟩
theorem tw18390997116913369390:True:=⟨⟩
theorem tw18406916357657518591:True:=⟨⟩
theorem tw18407625879919803692:True:=⟨⟩
theorem tw18432464612199097043:True:=⟨⟩
theorem tw18441803891614648630:True:=⟨⟩
end Nz.fin
set_option Elab.async true in
theorem Nz.fin:PySem.Challenge.rw_nz0165_01.Holds:=by
 (w_on;o_law;k_head;(case hw=>w_witness2))
 (k_go0;(all_goals try k_fold))
 rename Top _ _ _ _ _ _=>T0
 rename Fr _ _ _ _=>F0
 rename Frag.In _ _=>KX0
 rename Well _ _ _ _=>W0
 refine' Nz.law_end (Nz.sub_all (K:=Nz.KZ) ?zSub KX0) T0 ?zImp W0 ?zLen ?zFile ?zTop F0 rfl ?zM ?zLk ?zHd ?zBd ?zFn rfl rfl ?zK ?zRm ?zTk ?zPost
 case zSub=>intro P;kernel_rfl
 case zLen=>omega
 case zImp=>decide +kernel
 case zFile=>decide +kernel
 case zTop=>decide +kernel
 case zM=>rfl
 case zLk=>k_is
 case zHd=>exact rfl
 case zBd=>exact rfl
 case zFn=>exact ⟨⟨rfl,rfl,rfl,rfl⟩,fun x hx=>Nz.no_cells (by decide) hx⟩
 case zK=>rfl
 case zRm=>exact ⟨rfl,(by decide:1+claimMargin+1+20<recursionLimit),(by decide:4+3+16*20+256<cLine)⟩
 case zTk=>exact Nat.succ_pos _
 case zPost=>
  intro h' tk k
  dsimp only
  refine ⟨.inl ⟨_,.bool true,[],rfl,raisesW_false ?_,.bool true,?_,unshared_nil⟩,k,rfl,by assumption⟩
  · wrow_none_raised
  · wrow_post
theorem PySem.Challenge.cw_nz0165_01_holds : PySem.Challenge.rw_nz0165_01.Holds :=
  Nz.fin
