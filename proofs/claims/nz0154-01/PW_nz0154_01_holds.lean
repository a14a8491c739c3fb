import PyProof.Rows.All
import Wide.All
import OpenK.AllK
import Wide.FinOn
import PySem.Challenge.RW_nz0154_01
open PySem PySem.W PySem.Calls PyProof.Rows
set_option Elab.async false
set_option maxRecDepth 100000
set_option linter.unusedVariables false
set_option linter.unusedSimpArgs false
set_option genSizeOf false
set_option genSizeOfSpec false
set_option genInjectivity false
set_option maxHeartbeats 8000000
namespace Mine
theorem QZ:True:=by
 k_with "R"=>with_unfolding_all rfl
 k_with "s"=>with_reducible assumption
 k_with "T"=>repeat k_extra "t"
 trivial
noncomputable section
noncomputable abbrev PW:Program:=PySem.Challenge.pw_nz0154_01
noncomputable abbrev RW:OpenLaw:=PySem.Challenge.rw_nz0154_01
noncomputable abbrev vS(x:String)(t:Nat):Value:=.str (Str.ofString x) t
noncomputable abbrev vI(n:Int)(t:Nat):Value:=.int n t
noncomputable abbrev vR(a:Nat):Value:=.ref a
noncomputable abbrev vT(x:String):Value:=.type x
noncomputable abbrev vB(x:String):Value:=.builtin x
noncomputable abbrev vN:Value:=.none
noncomputable abbrev vE(P:Params)(x:String)(t:Nat)(v:Value):DictEntry:=⟨PyData.keyHash P (Str.ofString x),vS x t,v⟩
noncomputable def DY(l:List Stmt)(i:Nat):Stmt:=l.getD i (.Pass ⟨0,0,0,0⟩)
noncomputable def st(i:Nat):Stmt:=DY PW.main.body i
noncomputable def KP:Stmt->List Stmt
 | .ClassDef _ _ _ b _ _ _ _ _ _ _=>b
 |_=>[]
noncomputable def i7(i j:Nat):Stmt:=DY (KP (st i)) j
noncomputable def CM:Stmt->Arguments
 | .FunctionDef _ a _ _ _ _ _ _ _ _=>a
 |_=>default
noncomputable def cD:Stmt->List Stmt
 | .FunctionDef _ _ b _ _ _ _ _ _ _=>b
 |_=>[]
noncomputable def CN:Stmt->Scope
 | .FunctionDef _ _ _ _ _ _ s _ _ _=>s
 |_=>default
noncomputable abbrev fd(s:Stmt)(name qual:Str)(g:Nat)(cl:List (Str×Addr))(dV kV doc pm:Value)(an:Option Addr)(cd ct:Value)(b:Nat):FuncData:=
 {name,qualname:=qual,params:=CM s,body:=.stmts (cD s),scope:=CN s,globals:=g,closure:=cl,defaults:=dV,kwdefaults:=kV,doc,pyModule:=pm,annotations:=an,code:=cd,closureTuple:=ct,builtins:=b}
noncomputable abbrev tO(l:List Value):Obj:=⟨(vT "tuple"),none,(.seq l.toArray 0),#[]⟩
noncomputable abbrev fO(l:List Value):Obj:=⟨vN,none,(.fields l.toArray),#[]⟩
noncomputable abbrev cO(a:String)(n:Nat)(b:String)(l k:Int)(r v:Nat):Obj:=⟨vT "code",none,.fields [vS a n,vS b (n+1),vS "/claim/cut.py" (n+2),vI l 0,vI k 0,vI 0 0,vI 0 0,vI 3 0,vR r,.bool true,vI 181 0,vR (r+1),vN,vR (r+2),vR (r+3),vR (r+4),vI (.ofNat (n+3+v)) 0,vI l 0,vS "/claim/cut.py" (n+4+v)].toArray,#[]⟩
noncomputable abbrev cM(a:String)(n:Nat)(b:String)(l k:Int)(r:Nat):Obj:=⟨vT "code",none,.fields [vS a n,vS b (n+1),vS "/claim/cut.py" (n+2),vI l 0,vI k 0,vI 0 0,vI 0 0,vI 3 0,vR r,.bool true,vI 181 0,vR (r+1),vN,vN,vN,vR (r+2),vI (.ofNat (n+3)) 0,vI l 0,vS "/claim/cut.py" (n+4)].toArray,#[]⟩
noncomputable abbrev cC(a:String)(n:Nat)(l:Int)(r:Nat)(t:Int)(u:Nat):Obj:=⟨vT "code",none,.fields [vS a n,vS a (n+1),vS "/claim/cut.py" (n+2),vI l 0,vI 0 0,vI 0 0,vI 0 0,vI 0 0,vR r,.bool false,vI 181 0,vR (r+1),vN,vN,vN,vN,vI t 0,vI l 0,vS "/claim/cut.py" u].toArray,#[]⟩
noncomputable abbrev fN(s:Stmt)(a b m:String)(n c:Nat):Obj:=⟨vT "function",none,.func (fd s (Str.ofString a) (Str.ofString b) 3 [] vN vN vN (vS m n) none (vR c) vN 0),#[]⟩
noncomputable abbrev fE(s:Stmt)(a b:String)(c:Nat):Obj:=fN s a b "minismt.errors" 194 c
noncomputable abbrev fR(i:Nat)(a:String)(c:Nat):Obj:=fN (st i) a a "minismt.ratios" 257 c
noncomputable abbrev fT(i j:Nat)(a b:String)(c:Nat):Obj:=fN (i7 i j) a b "minismt.terms" 309 c
noncomputable abbrev fP(j:Nat)(a b:String)(c:Nat):Obj:=fN (i7 21 j) a b "minismt.operations" 997 c
noncomputable abbrev fL(i:Nat)(a:String)(c:Nat):Obj:=fN (st i) a a "law_nz0154_01" 1128 c
noncomputable def gO(f:Obj):Obj:=⟨vN,none,(match f.data with| .func d=>.func {d with globals:=0,closure:=[],pyModule:=vN,code:=vN,closureTuple:=vN}|d=>d),#[]⟩
noncomputable def nv(l:List String):Nat->List Value:=l.rec (λ_=>[]) λx _ f t=>vS x t::f (t+1)
noncomputable def f3(c:Int)(l:List (Int×Nat)):Obj:=fO (l.rec [] λp _ r=>vI p.1 0::vI c 0::vR p.2::r)
noncomputable def dE(P:Params)(l:List (String×Nat×Nat))(r:List DictEntry):List DictEntry:=l.rec r λp _ r=>vE P p.1 p.2.1 (vR p.2.2)::r
noncomputable def dO(c:Value)(n:Nat)(l:List DictEntry):Obj:=⟨c,none,.dict l.toArray n,#[]⟩
noncomputable def bO(x:String)(v:Value):Obj:=⟨vT "builtin_function_or_method",none,.fields [vB x,v].toArray,#[]⟩
noncomputable def DZ(a:Nat):Obj:=⟨vT "super",none,.fields [vR a,vR a,vR a].toArray,#[]⟩
noncomputable def fr(a b:Nat)(m:String)(n:Nat):Obj:=⟨vT "frame",none,.plain,[some (vR a),some (vR 3),some (vR b),none,some (vS m n),none,some (vR 0)].toArray⟩
noncomputable def t0:Obj:=tO []
noncomputable def f0:Obj:=fO []
noncomputable def J7(c f:Obj)(n:Nat)(l:List String)(r:List Obj):List Obj:=t0::f0::tO (nv l n)::t0::gO f::c::f::r
noncomputable def OB(l:List Obj):List Obj×List Obj:=l.rec ([],[]) λx _ p=>(x::p.2,p.1)
noncomputable def bt(n:Nat):List Obj->BT:=n.rec (λ_=>.nil) λ_ f l=>l.rec .nil λx r _=>.node x (f (OB r).1) (f (OB r).2)
noncomputable abbrev gN(s:Stmt)(a b:String):Obj:=⟨vN,none,(.func (fd s (Str.ofString a) (Str.ofString b) 0 [] vN vN vN vN none vN vN 0)),#[]⟩
noncomputable abbrev Lf(o:Obj):BT:=.node o .nil .nil
noncomputable abbrev Nd(o:Obj)(a b:BT):BT:=.node o a b
def GS:Obj:=cC "<module>" 182 1 11 185 186
def GU:Obj:=fr 13 3 "__main__" 164
noncomputable def Q_(P:Params):BT:=(Nd (boot_o_0 P) (Nd (boot_o_1 P) (Nd (boot_o_3 P) (Lf (boot_o_7 P)) (Lf t0)) (Nd (boot_o_5 P) (Lf (boot_o_9 P)) (Lf GS))) (Nd (boot_o_2 P) (Nd (boot_o_4 P) (Lf (boot_o_8 P)) (Lf f0)) (Nd (boot_o_6 P) (Lf (boot_o_10 P)) (Lf GU))))
noncomputable def JP(P:Params)(os:OsState):SharedT:=⟨Q_ P,15,{},#[],{},187,os⟩
def GV(P:Params):Obj:=⟨vN,none,(.dict [vE P "type.__subclasses__.Exception.0" 230 (vI 47 0),vE P "type.__subclasses__.Exception.n" 231 (vI 1 0)].toArray 2),#[]⟩
def u7(P:Params):Obj:=⟨(vT "dict"),none,(.dict [vE P "__name__" 165 (vS "law_nz0154_01" 1128),vE P "__doc__" 166 vN,vE P "__package__" 167 vN,vE P "__loader__" 168 (vB "__main__.__loader__#opaque"),vE P "__spec__" 169 vN,vE P "__annotations__" 170 (vR 6),vE P "__builtins__" 171 (vR 4),vE P "__file__" 173 (vS "/claim/cut.py" 172),vE P "__cached__" 174 vN,vE P "_wall" 193 (vR 21),vE P "SmtError" 233 (vR 47),vE P "SortFault" 256 (vR 67),vE P "ZERO" 261 (vR 70),vE P "gcd_of" 269 (vR 77),vE P "ratio" 278 (vR 84),vE P "neg" 285 (vR 91),vE P "mul" 293 (vR 98),vE P "div" 301 (vR 105),vE P "is_whole" 308 (vR 112),vE P "BOOL" 312 (vI 0 311),vE P "INT" 314 (vI 1 313),vE P "REAL" 316 (vI 2 315),vE P "Bank" 594 (vR 325),vE P "BoolBank" 727 (vR 430),vE P "NumberBank" 841 (vR 519),vE P "TermBank" 996 (vR 638),vE P "NumberTerms" 1127 (vR 732),vE P "_law_draw" 1138 (vR 743),vE P "_law_figure" 1147 (vR 750),vE P "_law_number" 1156 (vR 757),vE P "_law_term" 1169 (vR 764),vE P "_law_added" 1177 (vR 771),vE P "_law_less" 1185 (vR 778),vE P "_law_worth" 1191 (vR 783),vE P "_law_same" 1199 (vR 790),vE P "_law_tried" 1206 (vR 797),vE P "_law_figures" 1212 (vR 802),vE P "_law_product_right" 1218 (vR 807),vE P "_law_quotient_right" 1224 (vR 812),vE P "_law_stands" 1233 (vR 819),vE P "_law_compared_right" 1239 (vR 824),vE P "_law_size_right" 1251 (vR 831),vE P "law" 1257 (vR 836)].toArray 43),#[]⟩
def w4:Obj:=⟨(vT "cell"),none,(.cell (some (vR 47))),#[]⟩
def CO:Obj:=tO [(vR 25)]
def CP:Obj:=cO "__init__" 208 "SmtError.__init__" 7 2 31 3
def w5:Obj:=⟨(vT "function"),none,(.func (fd (i7 2 0) (Str.ofString "__init__") (Str.ofString "SmtError.__init__") 3 [((Str.ofString "__class__"),25)] vN vN vN (vS "minismt.errors" 194) none (vR 36) (vR 30) 0)),#[]⟩
def CQ(P:Params):Obj:=⟨(vT "dict"),none,(.dict [vE P "__module__" 203 (vS "minismt.errors" 194),vE P "__firstlineno__" 207 (vI 5 206),vE P "__init__" 216 (vR 37),vE P "told" 223 (vR 44),vE P "__static_attributes__" 225 (vR 45),vE P "__weakref__" 228 (vR 48),vE P "__doc__" 229 vN].toArray 4),#[]⟩
def ug:Obj:=⟨(vT "type"),none,(.cls {name:=(Str.ofString "SmtError"),bases:=[(vT "Exception")],mro:=[(vR 47),(vT "Exception"),(vT "BaseException"),(vT "object")],ns:=46,qualname:=(Str.ofString "SmtError"),hasDict:=true,slotNames:=[],subclasses:=[(vR 67)],abstract:=false,collection:=none,hasDel:=false}),[some (vR 22),none,some (vS "SmtError" 196),some (vS "SmtError" 204),some (vB "Exception.__new__"),some (.bool true)].toArray⟩
def CR(P:Params):Obj:=⟨(vT "dict"),none,(.dict [vE P "__module__" 241 (vS "minismt.errors" 194),vE P "__firstlineno__" 245 (vI 13 244),vE P "told" 252 (vR 64),vE P "__static_attributes__" 253 (vR 65),vE P "__doc__" 254 vN].toArray 2),#[]⟩
def o6:Obj:=⟨(vT "type"),none,(.cls {name:=(Str.ofString "SortFault"),bases:=[(vR 47)],mro:=[(vR 67),(vR 47),(vT "Exception"),(vT "BaseException"),(vT "object")],ns:=66,qualname:=(Str.ofString "SortFault"),hasDict:=true,slotNames:=[],subclasses:=[],abstract:=false,collection:=none,hasDel:=false}),[some (vR 51),none,some (vS "SortFault" 234),some (vS "SortFault" 242),some (vB "Exception.__new__"),some (.bool true)].toArray⟩
def w6:Obj:=tO [(vI 0 259),(vI 1 260)]
def CS:Obj:=cO "gcd_of" 262 "gcd_of" 19 2 71 2
def w7:Obj:=fR 6 "gcd_of" 76
def CT:Obj:=cO "ratio" 270 "ratio" 24 2 78 3
def w8:Obj:=fR 7 "ratio" 83
def CU:Obj:=cO "neg" 279 "neg" 31 1 85 1
def w9:Obj:=fR 8 "neg" 90
def CV:Obj:=cO "mul" 286 "mul" 33 2 92 2
def w':Obj:=fR 9 "mul" 97
def w_:Obj:=cO "div" 294 "div" 37 2 99 2
def rh:Obj:=fR 10 "div" 104
def xa:Obj:=cO "is_whole" 302 "is_whole" 41 1 106 1
def ri:Obj:=fR 11 "is_whole" 111
def xb:Obj:=cO "__init__" 329 "Bank.__init__" 49 1 120 1
def rk:Obj:=fT 16 0 "__init__" "Bank.__init__" 125
def xc:Obj:=cO "is_number_sort" 360 "Bank.is_number_sort" 73 2 148 2
def rl:Obj:=fT 16 4 "is_number_sort" "Bank.is_number_sort" 153
def xd:Obj:=cO "declare_fun" 376 "Bank.declare_fun" 79 4 162 4
def rn:Obj:=fT 16 6 "declare_fun" "Bank.declare_fun" 167
def xe:Obj:=cO "fun_name" 405 "Bank.fun_name" 91 2 183 2
def rp:Obj:=fT 16 9 "fun_name" "Bank.fun_name" 188
def xf:Obj:=cO "op" 436 "Bank.op" 103 2 211 2
def ru:Obj:=fT 16 13 "op" "Bank.op" 216
def xg:Obj:=cO "args" 444 "Bank.args" 106 2 218 2
def ry:Obj:=fT 16 14 "args" "Bank.args" 223
def xh:Obj:=cO "sort" 452 "Bank.sort" 109 2 225 2
def rA:Obj:=fT 16 15 "sort" "Bank.sort" 230
def xi:Obj:=cO "data" 460 "Bank.data" 112 2 232 2
def rB:Obj:=fT 16 16 "data" "Bank.data" 237
def xj:Obj:=cO "width" 468 "Bank.width" 115 2 239 2
def xl:Obj:=fT 16 17 "width" "Bank.width" 244
def xm:Obj:=cO "make" 483 "Bank.make" 121 5 253 7
def rE:Obj:=fT 16 19 "make" "Bank.make" 258
def xn:Obj:=cO "want" 515 "Bank.want" 139 4 274 4
def rF:Obj:=fT 16 22 "want" "Bank.want" 279
def xo:Obj:=cO "want_all" 525 "Bank.want_all" 143 4 281 5
def rG:Obj:=fT 16 23 "want_all" "Bank.want_all" 286
def xp(P:Params):Obj:=⟨(vT "dict"),none,(.dict [vE P "__module__" 324 (vS "minismt.terms" 309),vE P "__firstlineno__" 328 (vI 47 327),vE P "__init__" 335 (vR 126),vE P "sort_name" 343 (vR 133),vE P "declare_sort" 351 (vR 140),vE P "width_of" 359 (vR 147),vE P "is_number_sort" 367 (vR 154),vE P "is_free_sort" 375 (vR 161),vE P "declare_fun" 385 (vR 168),vE P "fresh_fun" 395 (vR 175),vE P "fresh_const" 404 (vR 182),vE P "fun_name" 412 (vR 189),vE P "fun_arg_sorts" 420 (vR 196),vE P "fun_result" 428 (vR 203),vE P "fun_count" 435 (vR 210),vE P "op" 443 (vR 217),vE P "args" 451 (vR 224),vE P "sort" 459 (vR 231),vE P "data" 467 (vR 238),vE P "width" 475 (vR 245),vE P "size" 482 (vR 252),vE P "make" 495 (vR 259),vE P "find_made" 506 (vR 266),vE P "is_value" 514 (vR 273),vE P "want" 524 (vR 280),vE P "want_all" 535 (vR 287),vE P "true_term" 542 (vR 294),vE P "false_term" 549 (vR 301),vE P "bool_term" 557 (vR 308),vE P "parts" 565 (vR 315),vE P "parts_of_all" 573 (vR 322),vE P "__static_attributes__" 587 (vR 323),vE P "__dict__" 589 (vR 326),vE P "__weakref__" 591 (vR 327),vE P "__doc__" 592 vN].toArray 4),#[]⟩
def xr:Obj:=⟨(vT "type"),none,(.cls {name:=(Str.ofString "Bank"),bases:=[(vT "object")],mro:=[(vR 325),(vT "object")],ns:=324,qualname:=(Str.ofString "Bank"),hasDict:=true,slotNames:=[],subclasses:=[(vR 430)],abstract:=false,collection:=none,hasDel:=false}),[none,none,some (vS "Bank" 317),some (vS "Bank" 325),some (vB "object.__new__"),some (.bool true)].toArray⟩
def xt:Obj:=cO "and_of" 615 "BoolBank.and_of" 166 2 344 2
def rH:Obj:=fT 17 1 "and_of" "BoolBank.and_of" 349
def xu:Obj:=cO "ite" 675 "BoolBank.ite" 190 4 393 4
def rI:Obj:=fT 17 8 "ite" "BoolBank.ite" 398
def xv:Obj:=cO "app" 685 "BoolBank.app" 195 3 400 6
def rJ:Obj:=fT 17 9 "app" "BoolBank.app" 405
def xw(P:Params):Obj:=⟨(vT "dict"),none,(.dict [vE P "__module__" 602 (vS "minismt.terms" 309),vE P "__firstlineno__" 606 (vI 161 605),vE P "not_of" 614 (vR 343),vE P "and_of" 622 (vR 350),vE P "or_of" 630 (vR 357),vE P "xor_of" 639 (vR 364),vE P "implies_of" 648 (vR 371),vE P "iff" 657 (vR 378),vE P "eq" 666 (vR 385),vE P "distinct" 674 (vR 392),vE P "ite" 684 (vR 399),vE P "app" 696 (vR 406),vE P "folded" 705 (vR 413),vE P "with_args" 714 (vR 420),vE P "replaced" 723 (vR 427),vE P "__static_attributes__" 724 (vR 428),vE P "__doc__" 725 vN].toArray 2),#[]⟩
def xx:Obj:=⟨(vT "type"),none,(.cls {name:=(Str.ofString "BoolBank"),bases:=[(vR 325)],mro:=[(vR 430),(vR 325),(vT "object")],ns:=429,qualname:=(Str.ofString "BoolBank"),hasDict:=true,slotNames:=[],subclasses:=[(vR 519)],abstract:=false,collection:=none,hasDel:=false}),[some (vR 330),none,some (vS "BoolBank" 595),some (vS "BoolBank" 603),some (vB "object.__new__"),some (.bool true)].toArray⟩
def xy:Obj:=cO "num" 740 "NumberBank.num" 213 3 440 3
def rK:Obj:=fT 18 0 "num" "NumberBank.num" 445
def xA:Obj:=cO "want_number" 749 "NumberBank.want_number" 220 3 447 3
def rM:Obj:=fT 18 1 "want_number" "NumberBank.want_number" 452
def xB:Obj:=cO "plus" 758 "NumberBank.plus" 224 2 454 2
def rN:Obj:=fT 18 2 "plus" "NumberBank.plus" 459
def xC:Obj:=cO "times_num" 766 "NumberBank.times_num" 231 3 461 4
def rO:Obj:=fT 18 3 "times_num" "NumberBank.times_num" 466
def xD:Obj:=cO "over_num" 785 "NumberBank.over_num" 241 3 475 3
def rP:Obj:=fT 18 5 "over_num" "NumberBank.over_num" 480
def xE:Obj:=cO "negative" 794 "NumberBank.negative" 247 2 482 2
def rQ:Obj:=fT 18 6 "negative" "NumberBank.negative" 487
def xF:Obj:=cO "le" 811 "NumberBank.le" 253 3 496 3
def rR:Obj:=fT 18 8 "le" "NumberBank.le" 501
def xG:Obj:=cO "lt" 820 "NumberBank.lt" 258 3 503 3
def rS:Obj:=fT 18 9 "lt" "NumberBank.lt" 508
def xH(P:Params):Obj:=⟨(vT "dict"),none,(.dict [vE P "__module__" 735 (vS "minismt.terms" 309),vE P "__firstlineno__" 739 (vI 211 738),vE P "num" 748 (vR 446),vE P "want_number" 757 (vR 453),vE P "plus" 765 (vR 460),vE P "times_num" 775 (vR 467),vE P "times" 784 (vR 474),vE P "over_num" 793 (vR 481),vE P "negative" 801 (vR 488),vE P "minus" 810 (vR 495),vE P "le" 819 (vR 502),vE P "lt" 828 (vR 509),vE P "with_args" 837 (vR 516),vE P "__static_attributes__" 838 (vR 517),vE P "__doc__" 839 vN].toArray 2),#[]⟩
def xI:Obj:=⟨(vT "type"),none,(.cls {name:=(Str.ofString "NumberBank"),bases:=[(vR 430)],mro:=[(vR 519),(vR 430),(vR 325),(vT "object")],ns:=518,qualname:=(Str.ofString "NumberBank"),hasDict:=true,slotNames:=[],subclasses:=[(vR 638)],abstract:=false,collection:=none,hasDel:=false}),[some (vR 433),none,some (vS "NumberBank" 728),some (vS "NumberBank" 736),some (vB "object.__new__"),some (.bool true)].toArray⟩
def rT:Obj:=⟨(vT "cell"),none,(.cell (some (vR 638))),#[]⟩
def xJ:Obj:=tO [(vR 525)]
def xK:Obj:=cO "__init__" 854 "TermBank.__init__" 267 1 531 2
def rU:Obj:=⟨(vT "function"),none,(.func (fd (i7 19 0) (Str.ofString "__init__") (Str.ofString "TermBank.__init__") 3 [((Str.ofString "__class__"),525)] vN vN vN (vS "minismt.terms" 309) none (vR 536) (vR 530) 0)),#[]⟩
def xM:Obj:=cO "want_bits" 878 "TermBank.want_bits" 277 3 552 3
def xN:Obj:=fT 19 3 "want_bits" "TermBank.want_bits" 557
def xO:Obj:=cO "want_place" 952 "TermBank.want_place" 302 4 608 4
def xP:Obj:=fT 19 11 "want_place" "TermBank.want_place" 613
def xQ:Obj:=cO "bit" 962 "TermBank.bit" 306 3 615 3
def xR:Obj:=fT 19 12 "bit" "TermBank.bit" 620
def xS:Obj:=cO "below" 981 "TermBank.below" 315 4 629 4
def xT:Obj:=fT 19 14 "below" "TermBank.below" 634
def xU(P:Params):Obj:=⟨(vT "dict"),none,(.dict [vE P "__module__" 849 (vS "minismt.terms" 309),vE P "__firstlineno__" 853 (vI 265 852),vE P "__init__" 861 (vR 537),vE P "bv_sort" 869 (vR 544),vE P "find_bv_sort" 877 (vR 551),vE P "want_bits" 886 (vR 558),vE P "bv_num" 895 (vR 565),vE P "bv_one" 904 (vR 572),vE P "bv_two" 914 (vR 579),vE P "concat" 923 (vR 586),vE P "extract" 933 (vR 593),vE P "zero_extend" 942 (vR 600),vE P "sign_extend" 951 (vR 607),vE P "want_place" 961 (vR 614),vE P "bit" 970 (vR 621),vE P "carry" 980 (vR 628),vE P "below" 990 (vR 635),vE P "__static_attributes__" 992 (vR 636),vE P "__doc__" 994 vN].toArray 3),#[]⟩
def nu:Obj:=⟨(vT "type"),none,(.cls {name:=(Str.ofString "TermBank"),bases:=[(vR 519)],mro:=[(vR 638),(vR 519),(vR 430),(vR 325),(vT "object")],ns:=637,qualname:=(Str.ofString "TermBank"),hasDict:=true,slotNames:=[],subclasses:=[],abstract:=false,collection:=none,hasDel:=false}),[some (vR 522),none,some (vS "TermBank" 842),some (vS "TermBank" 850),some (vB "object.__new__"),some (.bool true)].toArray⟩
def xV:Obj:=cO "__init__" 1011 "NumberTerms.__init__" 323 2 648 2
def rV:Obj:=fP 0 "__init__" "NumberTerms.__init__" 653
def xW:Obj:=cO "constant" 1019 "NumberTerms.constant" 326 2 655 2
def rW:Obj:=fP 1 "constant" "NumberTerms.constant" 660
def xX:Obj:=cO "as_real" 1027 "NumberTerms.as_real" 329 2 662 2
def rX:Obj:=fP 2 "as_real" "NumberTerms.as_real" 667
def xY:Obj:=cO "negative" 1052 "NumberTerms.negative" 340 2 683 2
def rY:Obj:=fP 5 "negative" "NumberTerms.negative" 688
def xZ:Obj:=cO "product" 1060 "NumberTerms.product" 343 2 690 6
def rZ:Obj:=fP 6 "product" "NumberTerms.product" 695
def x_:Obj:=cO "quotient" 1072 "NumberTerms.quotient" 357 2 697 6
def r4:Obj:=fP 7 "quotient" "NumberTerms.quotient" 702
def ya:Obj:=cO "compared" 1084 "NumberTerms.compared" 372 4 704 4
def r5:Obj:=fP 8 "compared" "NumberTerms.compared" 709
def yb:Obj:=cM "row_of" 1094 "NumberTerms.row_of" 379 3 711
def r6:Obj:=fP 9 "row_of" "NumberTerms.row_of" 714
def yc:Obj:=cO "size_of" 1100 "NumberTerms.size_of" 383 2 716 4
def r7:Obj:=fP 10 "size_of" "NumberTerms.size_of" 721
def yd(P:Params):Obj:=⟨(vT "dict"),none,(.dict [vE P "__module__" 1006 (vS "minismt.operations" 997),vE P "__firstlineno__" 1010 (vI 321 1009),vE P "__init__" 1018 (vR 654),vE P "constant" 1026 (vR 661),vE P "as_real" 1034 (vR 668),vE P "alike" 1042 (vR 675),vE P "numbers_of" 1051 (vR 682),vE P "negative" 1059 (vR 689),vE P "product" 1071 (vR 696),vE P "quotient" 1083 (vR 703),vE P "compared" 1093 (vR 710),vE P "row_of" 1099 (vR 715),vE P "size_of" 1109 (vR 722),vE P "applied" 1118 (vR 729),vE P "__static_attributes__" 1120 (vR 730),vE P "__dict__" 1122 (vR 733),vE P "__weakref__" 1124 (vR 734),vE P "__doc__" 1125 vN].toArray 4),#[]⟩
def ye:Obj:=⟨(vT "type"),none,(.cls {name:=(Str.ofString "NumberTerms"),bases:=[(vT "object")],mro:=[(vR 732),(vT "object")],ns:=731,qualname:=(Str.ofString "NumberTerms"),hasDict:=true,slotNames:=[],subclasses:=[],abstract:=false,collection:=none,hasDel:=false}),[none,none,some (vS "NumberTerms" 999),some (vS "NumberTerms" 1007),some (vB "object.__new__"),some (.bool true)].toArray⟩
def yf:Obj:=cO "_law_draw" 1130 "_law_draw" 393 2 737 3
def r8:Obj:=fL 23 "_law_draw" 742
def yg:Obj:=cO "_law_figure" 1139 "_law_figure" 399 2 744 3
def r9:Obj:=fL 24 "_law_figure" 749
def yh:Obj:=cO "_law_number" 1148 "_law_number" 402 3 751 3
def r_:Obj:=fL 25 "_law_number" 756
def yi:Obj:=cO "_law_term" 1157 "_law_term" 404 4 758 7
def sb:Obj:=fL 26 "_law_term" 763
def yj:Obj:=cO "_law_added" 1170 "_law_added" 417 2 765 2
def sd:Obj:=fL 27 "_law_added" 770
def yk:Obj:=cO "_law_less" 1178 "_law_less" 419 2 772 2
def se:Obj:=fL 28 "_law_less" 777
def yl:Obj:=cM "_law_worth" 1186 "_law_worth" 421 3 779
def ny:Obj:=fL 29 "_law_worth" 782
def ym:Obj:=cO "_law_same" 1192 "_law_same" 441 2 784 2
def sh:Obj:=fL 30 "_law_same" 789
def yn:Obj:=cO "_law_tried" 1200 "_law_tried" 445 1 791 1
def si:Obj:=fL 31 "_law_tried" 796
def yo:Obj:=cM "_law_figures" 1207 "_law_figures" 450 2 798
def sj:Obj:=fL 32 "_law_figures" 801
def nA:Obj:=cM "_law_product_right" 1213 "_law_product_right" 452 3 803
def sk:Obj:=fL 33 "_law_product_right" 806
def nB:Obj:=cM "_law_quotient_right" 1219 "_law_quotient_right" 472 3 808
def sq:Obj:=fL 34 "_law_quotient_right" 811
def yp:Obj:=cO "_law_stands" 1225 "_law_stands" 495 3 813 3
def su:Obj:=fL 35 "_law_stands" 818
def nC:Obj:=cM "_law_compared_right" 1234 "_law_compared_right" 499 4 820
def sv:Obj:=fL 36 "_law_compared_right" 823
def yq:Obj:=cO "_law_size_right" 1240 "_law_size_right" 515 3 825 6
def sx:Obj:=fL 37 "_law_size_right" 830
def yr:Obj:=cM "law" 1252 "law" 522 1 832
def nD:Obj:=fL 38 "law" 835
noncomputable def L4(P:Params):List Obj:=
 gN (st 34) "_law_quotient_right" "_law_quotient_right"::nB::sq::J7 yp su 1228 ["sign","one","other"] (t0::f0::gN (st 36) "_law_compared_right" "_law_compared_right"::nC::sv::J7 yq sx 1243 ["world","t","points","told","point","found"] (t0::f0::gN (st 38) "law" "law"::yr::nD::[]))
noncomputable def L3(P:Params):List Obj:=
 tO [(vS "bv_numbers" 991)]::xU P::nu::DZ 638::bO "object.__init_subclass__" (vR 638)::t0::bO "type.__prepare__" (vT "type")::dO (vT "dict") 16 (vE P "__module__" 1006 (vS "minismt.operations" 997)::vE P "__qualname__" 1008 (vS "NumberTerms" 1007)::vE P "__firstlineno__" 1010 (vI 321 1009)::dE P [("__init__",1018,654),("constant",1026,661),("as_real",1034,668),("alike",1042,675),("numbers_of",1051,682),("negative",1059,689),("product",1071,696),("quotient",1083,703),("compared",1093,710),("row_of",1099,715),("size_of",1109,722),("applied",1118,729),("__static_attributes__",1120,730)] [])::t0::f3 4 [(323,653),(326,660),(329,667),(334,674),(337,681),(340,688),(343,695),(357,702),(372,709),(379,714),(383,721),(390,728)]::cC "NumberTerms" 1001 321 644 1004 1005::fr 646 643 "minismt.operations" 997::J7 xV rV 1014 ["self","bank"] (J7 xW rW 1022 ["self","t"] (J7 xX rX 1030 ["self","t"] (J7 (cO "alike" 1035 "NumberTerms.alike" 334 2 669 2) (fP 3 "alike" "NumberTerms.alike" 674) 1038 ["self","some"] (J7 (cO "numbers_of" 1043 "NumberTerms.numbers_of" 337 3 676 3) (fP 4 "numbers_of" "NumberTerms.numbers_of" 681) 1046 ["self","name","some"] (J7 xY rY 1055 ["self","t"] (J7 xZ rZ 1063 ["self","some","factor","rest","t","value"] (J7 x_ r4 1075 ["self","some","found","t","value","top"] (J7 ya r5 1087 ["self","name","a","b"] (t0::f0::gN (i7 21 9) "row_of" "NumberTerms.row_of"::yb::r6::J7 yc r7 1103 ["self","t","nought","value"] (J7 (cO "applied" 1110 "NumberTerms.applied" 390 3 723 3) (fP 11 "applied" "NumberTerms.applied" 728) 1113 ["self","name","some"] (tO [(vS "bank" 1119)]::yd P::ye::⟨(vT "getset_descriptor"),none,(.fields [(vS "__dict__" 1121),(vR 732),(vB "function.__dict__"),(vB "function.__dict__#set")].toArray),#[]⟩::⟨(vT "getset_descriptor"),none,(.fields [(vS "__weakref__" 1123),(vR 732),(vB "ExceptionGroup.__weakref__"),vN].toArray),#[]⟩::DZ 732::bO "object.__init_subclass__" (vR 732)::J7 yf r8 1133 ["feed","wide","here"] (J7 yg r9 1142 ["feed","kind","top"] (J7 yh r_ 1151 ["world","kind","pair"] (J7 yi sb 1160 ["feed","world","kind","deep","way","bank","one"] (J7 yj sd 1173 ["one","other"] (J7 yk se 1181 ["one","other"] (t0::f0::gN (st 29) "_law_worth" "_law_worth"::yl::ny::J7 ym sh 1195 ["one","other"] (J7 yn si 1203 ["deed"] (t0::f0::gN (st 32) "_law_figures" "_law_figures"::yo::sj::t0::f0::gN (st 33) "_law_product_right" "_law_product_right"::nA::sk::t0::f0::L4 P)))))))))))))))))))
noncomputable def L2(P:Params):List Obj:=
 J7 (cO "with_args" 706 "BoolBank.with_args" 206 3 414 3) (fT 17 11 "with_args" "BoolBank.with_args" 419) 709 ["self","t","args"] (J7 (cO "replaced" 715 "BoolBank.replaced" 209 3 421 3) (fT 17 12 "replaced" "BoolBank.replaced" 426) 718 ["self","t","table"] (t0::xw P::xx::DZ 430::bO "object.__init_subclass__" (vR 430)::tO [(vR 430)]::bO "type.__prepare__" (vT "type")::dO (vT "dict") 15 (vE P "__module__" 735 (vS "minismt.terms" 309)::vE P "__qualname__" 737 (vS "NumberBank" 736)::vE P "__firstlineno__" 739 (vI 211 738)::dE P [("num",748,446),("want_number",757,453),("plus",765,460),("times_num",775,467),("times",784,474),("over_num",793,481),("negative",801,488),("minus",810,495),("le",819,502),("lt",828,509),("with_args",837,516),("__static_attributes__",838,517)] [])::t0::f3 4 [(213,445),(220,452),(224,459),(231,466),(238,473),(241,480),(247,487),(250,494),(253,501),(258,508),(263,515)]::cC "NumberBank" 730 211 436 733 734::fr 438 435 "minismt.terms" 309::J7 xy rK 743 ["self","value","s"] (J7 xA rM 752 ["self","t","where"] (J7 xB rN 761 ["self","some"] (J7 xC rO 769 ["self","value","t","s"] (J7 (cO "times" 776 "NumberBank.times" 238 3 468 3) (fT 18 4 "times" "NumberBank.times" 473) 779 ["self","a","b"] (J7 xD rP 788 ["self","t","value"] (J7 xE rQ 797 ["self","t"] (J7 (cO "minus" 802 "NumberBank.minus" 250 3 489 3) (fT 18 7 "minus" "NumberBank.minus" 494) 805 ["self","a","b"] (J7 xF rR 814 ["self","a","b"] (J7 xG rS 823 ["self","a","b"] (J7 (cO "with_args" 829 "NumberBank.with_args" 263 3 510 3) (fT 18 10 "with_args" "NumberBank.with_args" 515) 832 ["self","t","args"] (t0::xH P::xI::DZ 519::bO "object.__init_subclass__" (vR 519)::tO [(vR 519)]::bO "type.__prepare__" (vT "type")::dO (vT "dict") 20 (vE P "__module__" 849 (vS "minismt.terms" 309)::vE P "__qualname__" 851 (vS "TermBank" 850)::vE P "__firstlineno__" 853 (vI 265 852)::dE P [("__init__",861,537),("bv_sort",869,544),("find_bv_sort",877,551),("want_bits",886,558),("bv_num",895,565),("bv_one",904,572),("bv_two",914,579),("concat",923,586),("extract",933,593),("zero_extend",942,600),("sign_extend",951,607),("want_place",961,614),("bit",970,621),("carry",980,628),("below",990,635),("__static_attributes__",992,636),("__classcell__",993,525)] [])::rT::t0::f3 4 [(267,536),(271,543),(274,550),(277,557),(281,564),(284,571),(287,578),(290,585),(293,592),(296,599),(299,606),(302,613),(306,620),(312,627),(315,634)]::cC "TermBank" 844 265 526 847 848::fr 528 524 "minismt.terms" 309::xJ::tO [(vS "__class__" 857)]::f0::tO [(vS "self" 858)]::t0::gN (i7 19 0) "__init__" "TermBank.__init__"::xK::rU::J7 (cO "bv_sort" 862 "TermBank.bv_sort" 271 2 538 2) (fT 19 1 "bv_sort" "TermBank.bv_sort" 543) 865 ["self","width"] (J7 (cO "find_bv_sort" 870 "TermBank.find_bv_sort" 274 2 545 2) (fT 19 2 "find_bv_sort" "TermBank.find_bv_sort" 550) 873 ["self","width"] (J7 xM xN 881 ["self","t","where"] (J7 (cO "bv_num" 887 "TermBank.bv_num" 281 3 559 3) (fT 19 4 "bv_num" "TermBank.bv_num" 564) 890 ["self","value","width"] (J7 (cO "bv_one" 896 "TermBank.bv_one" 284 3 566 3) (fT 19 5 "bv_one" "TermBank.bv_one" 571) 899 ["self","op","t"] (J7 (cO "bv_two" 905 "TermBank.bv_two" 287 4 573 4) (fT 19 6 "bv_two" "TermBank.bv_two" 578) 908 ["self","op","a","b"] (J7 (cO "concat" 915 "TermBank.concat" 290 3 580 3) (fT 19 7 "concat" "TermBank.concat" 585) 918 ["self","a","b"] (J7 (cO "extract" 924 "TermBank.extract" 293 4 587 4) (fT 19 8 "extract" "TermBank.extract" 592) 927 ["self","high","low","t"] (J7 (cO "zero_extend" 934 "TermBank.zero_extend" 296 3 594 3) (fT 19 9 "zero_extend" "TermBank.zero_extend" 599) 937 ["self","many","t"] (J7 (cO "sign_extend" 943 "TermBank.sign_extend" 299 3 601 3) (fT 19 10 "sign_extend" "TermBank.sign_extend" 606) 946 ["self","many","t"] (J7 xO xP 955 ["self","i","t","where"] (J7 xQ xR 965 ["self","i","t"] (J7 (cO "carry" 971 "TermBank.carry" 312 4 622 4) (fT 19 13 "carry" "TermBank.carry" 627) 974 ["self","i","a","b"] (J7 xS xT 984 ["self","i","a","b"] (L3 P)))))))))))))))))))))))))))
noncomputable def L1(P:Params):List Obj:=
 bO "type.__prepare__" (vT "type")::dO (vT "dict") 33 (vE P "__module__" 324 (vS "minismt.terms" 309)::vE P "__qualname__" 326 (vS "Bank" 325)::vE P "__firstlineno__" 328 (vI 47 327)::dE P [("__init__",335,126),("sort_name",343,133),("declare_sort",351,140),("width_of",359,147),("is_number_sort",367,154),("is_free_sort",375,161),("declare_fun",385,168),("fresh_fun",395,175),("fresh_const",404,182),("fun_name",412,189),("fun_arg_sorts",420,196),("fun_result",428,203),("fun_count",435,210),("op",443,217),("args",451,224),("sort",459,231),("data",467,238),("width",475,245),("size",482,252),("make",495,259),("find_made",506,266),("is_value",514,273),("want",524,280),("want_all",535,287),("true_term",542,294),("false_term",549,301),("bool_term",557,308),("parts",565,315),("parts_of_all",573,322),("__static_attributes__",587,323)] [])::t0::f3 4 [(49,125),(64,132),(67,139),(70,146),(73,153),(76,160),(79,167),(85,174),(88,181),(91,188),(94,195),(97,202),(100,209),(103,216),(106,223),(109,230),(112,237),(115,244),(118,251),(121,258),(133,265),(136,272),(139,279),(143,286),(147,293),(150,300),(153,307),(156,314),(159,321)]::cC "Bank" 319 47 116 322 323::fr 118 115 "minismt.terms" 309::J7 xb rk 332 ["self"] (J7 (cO "sort_name" 336 "Bank.sort_name" 64 2 127 2) (fT 16 1 "sort_name" "Bank.sort_name" 132) 339 ["self","s"] (J7 (cO "declare_sort" 344 "Bank.declare_sort" 67 2 134 2) (fT 16 2 "declare_sort" "Bank.declare_sort" 139) 347 ["self","name"] (J7 (cO "width_of" 352 "Bank.width_of" 70 2 141 2) (fT 16 3 "width_of" "Bank.width_of" 146) 355 ["self","s"] (J7 xc rl 363 ["self","s"] (J7 (cO "is_free_sort" 368 "Bank.is_free_sort" 76 2 155 2) (fT 16 5 "is_free_sort" "Bank.is_free_sort" 160) 371 ["self","s"] (J7 xd rn 379 ["self","name","arg_sorts","result"] (J7 (cO "fresh_fun" 386 "Bank.fresh_fun" 85 4 169 4) (fT 16 7 "fresh_fun" "Bank.fresh_fun" 174) 389 ["self","stem","arg_sorts","result"] (J7 (cO "fresh_const" 396 "Bank.fresh_const" 88 3 176 3) (fT 16 8 "fresh_const" "Bank.fresh_const" 181) 399 ["self","name","s"] (J7 xe rp 408 ["self","f"] (J7 (cO "fun_arg_sorts" 413 "Bank.fun_arg_sorts" 94 2 190 2) (fT 16 10 "fun_arg_sorts" "Bank.fun_arg_sorts" 195) 416 ["self","f"] (J7 (cO "fun_result" 421 "Bank.fun_result" 97 2 197 2) (fT 16 11 "fun_result" "Bank.fun_result" 202) 424 ["self","f"] (J7 (cO "fun_count" 429 "Bank.fun_count" 100 1 204 1) (fT 16 12 "fun_count" "Bank.fun_count" 209) 432 ["self"] (J7 xf ru 439 ["self","t"] (J7 xg ry 447 ["self","t"] (J7 xh rA 455 ["self","t"] (J7 xi rB 463 ["self","t"] (J7 xj xl 471 ["self","t"] (J7 (cO "size" 476 "Bank.size" 118 1 246 1) (fT 16 18 "size" "Bank.size" 251) 479 ["self"] (J7 xm rE 486 ["self","op","args","sort","data","key","found"] (J7 (cO "find_made" 496 "Bank.find_made" 133 5 260 5) (fT 16 20 "find_made" "Bank.find_made" 265) 499 ["self","op","args","sort","data"] (J7 (cO "is_value" 507 "Bank.is_value" 136 2 267 2) (fT 16 21 "is_value" "Bank.is_value" 272) 510 ["self","t"] (J7 xn rF 518 ["self","t","s","where"] (J7 xo rG 528 ["self","some","s","where","t"] (J7 (cO "true_term" 536 "Bank.true_term" 147 1 288 1) (fT 16 24 "true_term" "Bank.true_term" 293) 539 ["self"] (J7 (cO "false_term" 543 "Bank.false_term" 150 1 295 1) (fT 16 25 "false_term" "Bank.false_term" 300) 546 ["self"] (J7 (cO "bool_term" 550 "Bank.bool_term" 153 2 302 2) (fT 16 26 "bool_term" "Bank.bool_term" 307) 553 ["self","holds"] (J7 (cO "parts" 558 "Bank.parts" 156 2 309 2) (fT 16 27 "parts" "Bank.parts" 314) 561 ["self","t"] (J7 (cO "parts_of_all" 566 "Bank.parts_of_all" 159 2 316 2) (fT 16 28 "parts_of_all" "Bank.parts_of_all" 321) 569 ["self","some"] (tO [(vS "false_number" 574),(vS "fresh_count" 575),(vS "fun_args" 576),(vS "fun_names" 577),(vS "fun_results" 578),(vS "numbers" 579),(vS "sort_names" 580),(vS "sort_widths" 581),(vS "term_args" 582),(vS "term_datas" 583),(vS "term_ops" 584),(vS "term_sorts" 585),(vS "true_number" 586)]::xp P::xr::⟨(vT "getset_descriptor"),none,(.fields [(vS "__dict__" 588),(vR 325),(vB "function.__dict__"),(vB "function.__dict__#set")].toArray),#[]⟩::⟨(vT "getset_descriptor"),none,(.fields [(vS "__weakref__" 590),(vR 325),(vB "ExceptionGroup.__weakref__"),vN].toArray),#[]⟩::DZ 325::bO "object.__init_subclass__" (vR 325)::tO [(vR 325)]::bO "type.__prepare__" (vT "type")::dO (vT "dict") 17 (vE P "__module__" 602 (vS "minismt.terms" 309)::vE P "__qualname__" 604 (vS "BoolBank" 603)::vE P "__firstlineno__" 606 (vI 161 605)::dE P [("not_of",614,343),("and_of",622,350),("or_of",630,357),("xor_of",639,364),("implies_of",648,371),("iff",657,378),("eq",666,385),("distinct",674,392),("ite",684,399),("app",696,406),("folded",705,413),("with_args",714,420),("replaced",723,427),("__static_attributes__",724,428)] [])::t0::f3 4 [(163,342),(166,349),(172,356),(175,363),(178,370),(181,377),(184,384),(187,391),(190,398),(195,405),(203,412),(206,419),(209,426)]::cC "BoolBank" 597 161 333 600 601::fr 335 332 "minismt.terms" 309::J7 (cO "not_of" 607 "BoolBank.not_of" 163 2 337 2) (fT 17 0 "not_of" "BoolBank.not_of" 342) 610 ["self","t"] (J7 xt rH 618 ["self","some"] (J7 (cO "or_of" 623 "BoolBank.or_of" 172 2 351 2) (fT 17 2 "or_of" "BoolBank.or_of" 356) 626 ["self","some"] (J7 (cO "xor_of" 631 "BoolBank.xor_of" 175 3 358 3) (fT 17 3 "xor_of" "BoolBank.xor_of" 363) 634 ["self","a","b"] (J7 (cO "implies_of" 640 "BoolBank.implies_of" 178 3 365 3) (fT 17 4 "implies_of" "BoolBank.implies_of" 370) 643 ["self","a","b"] (J7 (cO "iff" 649 "BoolBank.iff" 181 3 372 3) (fT 17 5 "iff" "BoolBank.iff" 377) 652 ["self","a","b"] (J7 (cO "eq" 658 "BoolBank.eq" 184 3 379 3) (fT 17 6 "eq" "BoolBank.eq" 384) 661 ["self","a","b"] (J7 (cO "distinct" 667 "BoolBank.distinct" 187 2 386 2) (fT 17 7 "distinct" "BoolBank.distinct" 391) 670 ["self","some"] (J7 xu rI 678 ["self","c","a","b"] (J7 xv rJ 688 ["self","f","some","sorts","t","s"] (J7 (cO "folded" 697 "BoolBank.folded" 203 3 407 3) (fT 17 10 "folded" "BoolBank.folded" 412) 700 ["self","t","args"] (L2 P))))))))))))))))))))))))))))))))))))))))
noncomputable def L0(P:Params):List Obj:=
 boot_o_0 P::boot_o_1 P::GV P::u7 P::boot_o_4 P::boot_o_5 P::boot_o_6 P::boot_o_7 P::boot_o_8 P::boot_o_9 P::boot_o_10 P::t0::f3 0 [(1,20),(5,28),(13,56),(19,76),(24,83),(31,90),(33,97),(37,104),(41,111),(47,118),(161,335),(211,438),(265,528),(321,646),(393,742),(399,749),(402,756),(404,763),(417,770),(419,777),(421,782),(441,789),(445,796),(450,801),(452,806),(472,811),(495,818),(499,823),(515,830),(522,835)]::cC "<module>" 182 1 11 185 186::fr 13 3 "__main__" 164::J7 (cO "_wall" 187 "_wall" 1 1 15 1) (fN (st 0) "_wall" "_wall" "__main__" 164 20) 190 ["k"] (tO [(vT "Exception")]::bO "type.__prepare__" (vT "type")::dO (vT "dict") 7 (vE P "__module__" 203 (vS "minismt.errors" 194)::vE P "__qualname__" 205 (vS "SmtError" 204)::vE P "__firstlineno__" 207 (vI 5 206)::dE P [("__init__",216,37),("told",223,44),("__static_attributes__",225,45),("__classcell__",226,25)] [])::w4::t0::f3 4 [(7,36),(11,43)]::cC "SmtError" 198 5 26 201 202::fr 28 24 "minismt.errors" 194::CO::tO [(vS "__class__" 211)]::f0::tO [(vS "self" 212),(vS "what" 213)]::t0::gN (i7 2 0) "__init__" "SmtError.__init__"::CP::w5::J7 (cO "told" 217 "SmtError.told" 11 1 38 1) (fE (i7 2 1) "told" "SmtError.told" 43) 220 ["self"] (tO [(vS "what" 224)]::CQ P::ug::⟨(vT "getset_descriptor"),none,(.fields [(vS "__weakref__" 227),(vR 47),(vB "ExceptionGroup.__weakref__"),vN].toArray),#[]⟩::DZ 47::bO "object.__init_subclass__" (vR 47)::tO [(vR 47)]::bO "type.__prepare__" (vT "type")::dO (vT "dict") 5 (vE P "__module__" 241 (vS "minismt.errors" 194)::vE P "__qualname__" 243 (vS "SortFault" 242)::vE P "__firstlineno__" 245 (vI 13 244)::dE P [("told",252,64),("__static_attributes__",253,65)] [])::t0::f3 4 [(15,63)]::cC "SortFault" 236 13 54 239 240::fr 56 53 "minismt.errors" 194::J7 (cO "told" 246 "SortFault.told" 15 1 58 1) (fE (i7 3 0) "told" "SortFault.told" 63) 249 ["self"] (t0::CR P::o6::DZ 67::bO "object.__init_subclass__" (vR 67)::w6::J7 CS w7 265 ["a","b"] (J7 CT w8 273 ["top","bottom","common"] (J7 CU w9 282 ["a"] (J7 CV w' 289 ["a","b"] (J7 w_ rh 297 ["a","b"] (J7 xa ri 305 ["a"] (t0::L1 P)))))))))
noncomputable def KQ(P:Params):BT:=bt 10 (L0 P)
noncomputable def KR(P:Params)(os:OsState):SharedT:=⟨KQ P,837,{},#[],{},1258,os⟩
def KS(P:Params):Obj:=dO (vT "dict") 23 (vE P "__name__" 165 (vS "minismt.terms" 309)::vE P "__doc__" 166 vN::vE P "__package__" 167 vN::vE P "__loader__" 168 (vB "__main__.__loader__#opaque")::vE P "__spec__" 169 vN::dE P [("__annotations__",170,6),("__builtins__",171,4)] (vE P "__file__" 173 (vS "/claim/cut.py" 172)::vE P "__cached__" 174 vN::dE P [("_wall",193,21),("SmtError",233,47),("SortFault",256,67),("ZERO",261,70),("gcd_of",269,77),("ratio",278,84),("neg",285,91),("mul",293,98),("div",301,105),("is_whole",308,112)] (vE P "BOOL" 312 (vI 0 311)::vE P "INT" 314 (vI 1 313)::vE P "REAL" 316 (vI 2 315)::vE P "Bank" 594 (vR 325)::[])))
def GW:Obj:=f3 0 [(1,20),(5,28),(13,56),(19,76),(24,83),(31,90),(33,97),(37,104),(41,111),(47,118)]
def D0:Obj:=⟨(vT "type"),none,(.cls {name:=(Str.ofString "Bank"),bases:=[(vT "object")],mro:=[(vR 325),(vT "object")],ns:=324,qualname:=(Str.ofString "Bank"),hasDict:=true,slotNames:=[],subclasses:=[],abstract:=false,collection:=none,hasDel:=false}),[none,none,some (vS "Bank" 317),some (vS "Bank" 325),some (vB "object.__new__"),some (.bool true)].toArray⟩
def KU(P:Params):Obj:=dO (vT "dict") 26 (vE P "__name__" 165 (vS "minismt.terms" 309)::vE P "__doc__" 166 vN::vE P "__package__" 167 vN::vE P "__loader__" 168 (vB "__main__.__loader__#opaque")::vE P "__spec__" 169 vN::dE P [("__annotations__",170,6),("__builtins__",171,4)] (vE P "__file__" 173 (vS "/claim/cut.py" 172)::vE P "__cached__" 174 vN::dE P [("_wall",193,21),("SmtError",233,47),("SortFault",256,67),("ZERO",261,70),("gcd_of",269,77),("ratio",278,84),("neg",285,91),("mul",293,98),("div",301,105),("is_whole",308,112)] (vE P "BOOL" 312 (vI 0 311)::vE P "INT" 314 (vI 1 313)::vE P "REAL" 316 (vI 2 315)::dE P [("Bank",594,325),("BoolBank",727,430),("NumberBank",841,519),("TermBank",996,638)] [])))
def GX:Obj:=f3 0 [(1,20),(5,28),(13,56),(19,76),(24,83),(31,90),(33,97),(37,104),(41,111),(47,118),(161,335),(211,438),(265,528)]
noncomputable def Ra(P:Params):BT:=bt 10 (((((L0 P).take 330).set 3 (KS P)).set 12 GW).set 325 D0)
noncomputable def Rb(P:Params):BT:=bt 10 ((((L0 P).take 641).set 3 (KU P)).set 12 GX)
noncomputable def OC(P:Params)(os:OsState):SharedT:=⟨Ra P,330,{},#[],{},595,os⟩
noncomputable def OD(P:Params)(os:OsState):SharedT:=⟨Rb P,641,{},#[],{},997,os⟩
noncomputable def hp(P:Params):Heap:=⟨(L0 P).toArray,{}⟩
noncomputable def K(P:Params):Frag:=[(nat_lit 3,u7 P),(nat_lit 25,w4),(nat_lit 30,CO),(nat_lit 36,CP),(nat_lit 37,w5),(nat_lit 46,CQ P),(nat_lit 47,ug),(nat_lit 66,CR P),(nat_lit 67,o6),(nat_lit 70,w6),(nat_lit 76,CS),(nat_lit 77,w7),(nat_lit 83,CT),(nat_lit 84,w8),(nat_lit 90,CU),(nat_lit 91,w9),(nat_lit 97,CV),(nat_lit 98,w'),(nat_lit 104,w_),(nat_lit 105,rh),(nat_lit 111,xa),(nat_lit 112,ri),(nat_lit 125,xb),(nat_lit 126,rk),(nat_lit 153,xc),(nat_lit 154,rl),(nat_lit 167,xd),(nat_lit 168,rn),(nat_lit 188,xe),(nat_lit 189,rp),(nat_lit 216,xf),(nat_lit 217,ru),(nat_lit 223,xg),(nat_lit 224,ry),(nat_lit 230,xh),(nat_lit 231,rA),(nat_lit 237,xi),(nat_lit 238,rB),(nat_lit 244,xj),(nat_lit 245,xl),(nat_lit 258,xm),(nat_lit 259,rE),(nat_lit 279,xn),(nat_lit 280,rF),(nat_lit 286,xo),(nat_lit 287,rG),(nat_lit 324,xp P),(nat_lit 325,xr),(nat_lit 349,xt),(nat_lit 350,rH),(nat_lit 398,xu),(nat_lit 399,rI),(nat_lit 405,xv),(nat_lit 406,rJ),(nat_lit 429,xw P),(nat_lit 430,xx),(nat_lit 445,xy),(nat_lit 446,rK),(nat_lit 452,xA),(nat_lit 453,rM),(nat_lit 459,xB),(nat_lit 460,rN),(nat_lit 466,xC),(nat_lit 467,rO),(nat_lit 480,xD),(nat_lit 481,rP),(nat_lit 487,xE),(nat_lit 488,rQ),(nat_lit 501,xF),(nat_lit 502,rR),(nat_lit 508,xG),(nat_lit 509,rS),(nat_lit 518,xH P),(nat_lit 519,xI),(nat_lit 525,rT),(nat_lit 530,xJ),(nat_lit 536,xK),(nat_lit 537,rU),(nat_lit 557,xM),(nat_lit 558,xN),(nat_lit 613,xO),(nat_lit 614,xP),(nat_lit 620,xQ),(nat_lit 621,xR),(nat_lit 634,xS),(nat_lit 635,xT),(nat_lit 637,xU P),(nat_lit 638,nu),(nat_lit 653,xV),(nat_lit 654,rV),(nat_lit 660,xW),(nat_lit 661,rW),(nat_lit 667,xX),(nat_lit 668,rX),(nat_lit 688,xY),(nat_lit 689,rY),(nat_lit 695,xZ),(nat_lit 696,rZ),(nat_lit 702,x_),(nat_lit 703,r4),(nat_lit 709,ya),(nat_lit 710,r5),(nat_lit 714,yb),(nat_lit 715,r6),(nat_lit 721,yc),(nat_lit 722,r7),(nat_lit 731,yd P),(nat_lit 732,ye),(nat_lit 742,yf),(nat_lit 743,r8),(nat_lit 749,yg),(nat_lit 750,r9),(nat_lit 756,yh),(nat_lit 757,r_),(nat_lit 763,yi),(nat_lit 764,sb),(nat_lit 770,yj),(nat_lit 771,sd),(nat_lit 777,yk),(nat_lit 778,se),(nat_lit 782,yl),(nat_lit 783,ny),(nat_lit 789,ym),(nat_lit 790,sh),(nat_lit 796,yn),(nat_lit 797,si),(nat_lit 801,yo),(nat_lit 802,sj),(nat_lit 806,nA),(nat_lit 807,sk),(nat_lit 811,nB),(nat_lit 812,sq),(nat_lit 818,yp),(nat_lit 819,su),(nat_lit 823,nC),(nat_lit 824,sv),(nat_lit 830,yq),(nat_lit 831,sx),(nat_lit 835,yr),(nat_lit 836,nD),(nat_lit 2,GV P),(nat_lit 4,boot_o_4 P)]
noncomputable def P0:Params:={strHash:=λ_=>0,shareClass:=λ_=>0,mergeTok:=id,idOf:=λ_=>0,idOfShared:=λ_ _=>0,followText:=λ_=>false,idOfImm:=λ_=>0}
noncomputable def KV:List Nat:=(K P0).map (·.1)
noncomputable def A0:List Nat:=KV++[nat_lit 804,nat_lit 809,nat_lit 821]
noncomputable def K2(P:Params):Frag:=K P++[(nat_lit 804,f0),(nat_lit 809,f0),(nat_lit 821,f0)]
noncomputable def bE:List Stmt:=behindTheImports PW
noncomputable def eE:Env:={scope:=PW.main.scope,locals:=mainNs,globals:=mainNs,cells:=[],code:=.ref 13,frame:=some 14}
noncomputable def cE:Code:=.body bE eE
noncomputable abbrev p0:Pos:=⟨0,0,0,0⟩
noncomputable abbrev BE:List Frame:=[topFrame p0]
noncomputable def sA:List Stmt:=bE.take 17
noncomputable def sB:List Stmt:=(bE.drop 17).take 3
noncomputable def sC:List Stmt:=bE.drop 20
noncomputable abbrev ann:Option Value:=some (.ref 6)
theorem KW(w:World)(os:OsState):segRunT treeTable PW w 11 ann 1 1936 (JP w.params os) (piecesOf sA eE cE p0 BE)=some (.next,OC w.params os,cE,⟨47,0,160,17⟩):=by
 rw[PySem.W.Fast.te10110043849684766642,PySem.W.Fast.te14364793385576792824]
 kernel_rfl
theorem KX(w:World)(os:OsState):segRunT treeTable PW w 11 ann 1 1983 (OC w.params os) (piecesOf sB eE cE ⟨47,0,160,17⟩ BE)=some (.next,OD w.params os,cE,⟨265,0,319,50⟩):=by
 rw[PySem.W.Fast.te10110043849684766642,PySem.W.Fast.te14364793385576792824]
 kernel_rfl
theorem runC(w:World)(os:OsState):segRunT treeTable PW w 11 ann 1 1071 (OD w.params os) (piecesOf sC eE cE ⟨265,0,319,50⟩ BE)=some (.next,KR w.params os,cE,⟨522,0,545,15⟩):=by
 rw[PySem.W.Fast.te10110043849684766642,PySem.W.Fast.te14364793385576792824]
 kernel_rfl
end
noncomputable section
theorem KY(w:World)(os:OsState):topGo treeTable PW w 11 ann 12 ⟨boot_heap w.params,#[],boot_drawn,boot_toks,os⟩ (topStub PW)=some ((JP w.params os).abs,⟨denote treeTable cE,cE,p0,BE⟩):=by
 kernel_rfl
theorem KZ(w:World)(os:OsState):segRun treeTable PW w 11 ann 1 1 (JP w.params os).abs (blockOf bE eE cE p0 BE)=some (.next,(JP w.params os).abs,cE,p0):=by
 kernel_rfl
theorem GY:bE=sA++(sB++(sC++[])):=by kernel_rfl
theorem K0(w:World)(os:OsState):topRun treeTable PW w 11 ann 2 (KR w.params os).abs (⟨doneF .next,cE,⟨522,0,545,15⟩,BE⟩:Thread)=some (KR w.params os).abs:=by
 kernel_rfl
theorem GZ(P:Params):absHeap (KQ P) 837 {}=hp P:=by kernel_rfl
theorem K4(w:World)(os:OsState):topRun treeTable PW w 11 ann (12+(1+(1936+(1983+(1071+2))))) ⟨boot_heap w.params,#[],boot_drawn,boot_toks,os⟩ (topStub PW)=some ⟨hp w.params,#[],{},1258,os⟩:=by
 refine go_top (KY w os) ?_
 refine piece_block (KZ w os) ?_
 rw[GY]
 refine piece_app (segRun_of (KW w os)) ?_
 refine piece_app (segRun_of (KX w os)) ?_
 refine piece_app (segRun_of (runC w os)) ?_
 refine piece_nil ?_
 rw[K0 w os]
 show some (⟨absHeap (KQ w.params) 837 {},#[],{},1258,os⟩:Shared)=_
 rw[GZ]
theorem G_:∀w:World,(fencedOpening treeTable PW w 12000).map (λs=>(s.heap,s.gens,s.drawn,s.toks))=some (boot_heap w.params,Array.mk [],boot_drawn,boot_toks):=
 boot_open (by kernel_rfl) (by rfl) (λs=>by kernel_rfl)
noncomputable def posOf:Stmt->Pos
 | .FunctionDef _ _ _ _ _ _ _ _ _ p=>p
 |_=>p0
noncomputable def qV:Program:={PW with main:={PW.main with body:=[st 38]}}
noncomputable def kD:List Str:=(PW.boundNames).filter (·!=Str.ofString "law")
noncomputable def dL:DefRec:=⟨Str.ofString "law",CM (st 38),cD (st 38),CN (st 38),posOf (st 38)⟩
theorem CW(P:Params):A0=(K2 P).map (·.1):=by kernel_rfl
noncomputable abbrev HK:Hook:=kHook K2 A0 CW
theorem Ha:∀w:World,((boot_heap w.params).isNs mainGlobals&&(#[]:Array GenState).size==0,(boot_heap w.params).objs.size,(boot_heap w.params).nsMap mainGlobals "__annotations__")=(true,11,ann):=λw=>by kernel_rfl
theorem Hb(w:World)(os:OsState):(staticsOk (importedModules PW.main.body) (boot_heap w.params) (hp w.params)&&namesBound PW (hp w.params)&&gensDone ⟨hp w.params,#[],{},1258,os⟩&&laidKept (boot_heap w.params) (hp w.params))=true:=by kernel_rfl
theorem Hc(w:World):A0.map (hp w.params).get?=(K2 w.params).map λp=>some p.2:=by kernel_rfl
theorem Hd(w:World)(os:OsState):openSeen qV kD (importedModules PW.main.body) (λ_=>true) true ⟨hp w.params,#[],{},1258,os⟩=openGood qV kD:=by
 rw[PySem.W.Fast.te4187177175401517315]
 kernel_rfl
end
abbrev Walk:Prop:=WalkO qV kD (λ_ _=>True) HK.says RW.row.toRowW dL [] λf vs=>PySem.call f vs
theorem w_any(B:World->Prop):∃w0,B w0->∀w,B w:=by
 by_cases h:∃w,¬B w
 ·obtain⟨w,hw⟩:=h
  exact⟨w,λq=>absurd q hw⟩
 ·exact⟨⟨λ_ _=>0,{strHash:=λ_=>0,shareClass:=λ_=>0,mergeTok:=id,idOf:=λ_=>0,idOfShared:=λ_ _=>0,followText:=λ_=>false,idOfImm:=λ_=>0}⟩,λ_ w=>Classical.byContradiction λq=>h ⟨w,q⟩⟩
theorem Vm{G:Prop}(x:∀C:Prop,(G->C)->C):G:=x G id
section
variable{α β γ δ ε:Type}{C:Prop}
theorem i_{p q:Prop}(h:p/\q)(k:p->q->C):C:=k h.1 h.2
theorem u9{p q r:Prop}(h:p/\q/\r)(k:p->q->r->C):C:=k h.1 h.2.1 h.2.2
theorem JQ{p q r s:Prop}(h:p/\q/\r/\s)(k:p->q->r->s->C):C:=k h.1 h.2.1 h.2.2.1 h.2.2.2
theorem CX{p q r s t:Prop}(h:p/\q/\r/\s/\t)(k:p->q->r->s->t->C):C:=k h.1 h.2.1 h.2.2.1 h.2.2.2.1 h.2.2.2.2
theorem K5{p q r s t u v:Prop}(h:p/\q/\r/\s/\t/\u/\v)(k:p->q->r->s->t->u->v->C):C:=k h.1 h.2.1 h.2.2.1 h.2.2.2.1 h.2.2.2.2.1 h.2.2.2.2.2.1 h.2.2.2.2.2.2
theorem OE{p q r s t u:Prop}(h:p/\q/\r/\s/\t/\u)(k:p->q->r->s->t->u->C):C:=k h.1 h.2.1 h.2.2.1 h.2.2.2.1 h.2.2.2.2.1 h.2.2.2.2.2
theorem Rc{p q r:α->β->γ->δ->ε->Prop}(h:∃a b c d e,p a b c d e/\q a b c d e/\r a b c d e)(k:∀a b c d e,p a b c d e->q a b c d e->r a b c d e->C):C:=h.elim λa h=>h.elim λb h=>h.elim λc h=>h.elim λd h=>h.elim λe h=>k a b c d e h.1 h.2.1 h.2.2
theorem Rf{p q r s:α->β->γ->δ->ε->Prop}(h:∃a b c d e,p a b c d e/\q a b c d e/\r a b c d e/\s a b c d e)(k:∀a b c d e,p a b c d e->q a b c d e->r a b c d e->s a b c d e->C):C:=h.elim λa h=>h.elim λb h=>h.elim λc h=>h.elim λd h=>h.elim λe h=>k a b c d e h.1 h.2.1 h.2.2.1 h.2.2.2
theorem aP{p:α->Prop}(h:∃a,p a)(k:∀a,p a->C):C:=h.elim λa h=>k a h
theorem aU{p q:α->Prop}(h:∃a,p a/\q a)(k:∀a,p a->q a->C):C:=h.elim λa h=>k a h.1 h.2
theorem fF{p q r:α->Prop}(h:∃a,p a/\q a/\r a)(k:∀a,p a->q a->r a->C):C:=h.elim λa h=>k a h.1 h.2.1 h.2.2
theorem nE{p:α->β->Prop}(h:∃a b,p a b)(k:∀a b,p a b->C):C:=h.elim λa h=>h.elim λb h=>k a b h
theorem dm{p q:α->β->Prop}(h:∃a b,p a b/\q a b)(k:∀a b,p a b->q a b->C):C:=h.elim λa h=>h.elim λb h=>k a b h.1 h.2
theorem fv{p q r:α->β->Prop}(h:∃a b,p a b/\q a b/\r a b)(k:∀a b,p a b->q a b->r a b->C):C:=h.elim λa h=>h.elim λb h=>k a b h.1 h.2.1 h.2.2
theorem Rh{p q r s:α->β->Prop}(h:∃a b,p a b/\q a b/\r a b/\s a b)(k:∀a b,p a b->q a b->r a b->s a b->C):C:=h.elim λa h=>h.elim λb h=>k a b h.1 h.2.1 h.2.2.1 h.2.2.2
theorem K6{p q r s t:α->β->Prop}(h:∃a b,p a b/\q a b/\r a b/\s a b/\t a b)(k:∀a b,p a b->q a b->r a b->s a b->t a b->C):C:=h.elim λa h=>h.elim λb h=>k a b h.1 h.2.1 h.2.2.1 h.2.2.2.1 h.2.2.2.2
theorem JR{p:α->β->γ->Prop}(h:∃a b c,p a b c)(k:∀a b c,p a b c->C):C:=h.elim λa h=>h.elim λb h=>h.elim λc h=>k a b c h
theorem jH{p q:α->β->γ->Prop}(h:∃a b c,p a b c/\q a b c)(k:∀a b c,p a b c->q a b c->C):C:=h.elim λa h=>h.elim λb h=>h.elim λc h=>k a b c h.1 h.2
theorem A2{p q r:α->β->γ->Prop}(h:∃a b c,p a b c/\q a b c/\r a b c)(k:∀a b c,p a b c->q a b c->r a b c->C):C:=h.elim λa h=>h.elim λb h=>h.elim λc h=>k a b c h.1 h.2.1 h.2.2
theorem He{p q r s:α->β->γ->Prop}(h:∃a b c,p a b c/\q a b c/\r a b c/\s a b c)(k:∀a b c,p a b c->q a b c->r a b c->s a b c->C):C:=h.elim λa h=>h.elim λb h=>h.elim λc h=>k a b c h.1 h.2.1 h.2.2.1 h.2.2.2
theorem JS{p q r s t:α->β->γ->Prop}(h:∃a b c,p a b c/\q a b c/\r a b c/\s a b c/\t a b c)(k:∀a b c,p a b c->q a b c->r a b c->s a b c->t a b c->C):C:=h.elim λa h=>h.elim λb h=>h.elim λc h=>k a b c h.1 h.2.1 h.2.2.1 h.2.2.2.1 h.2.2.2.2
theorem JT{p q r:α->β->γ->δ->Prop}(h:∃a b c d,p a b c d/\q a b c d/\r a b c d)(k:∀a b c d,p a b c d->q a b c d->r a b c d->C):C:=h.elim λa h=>h.elim λb h=>h.elim λc h=>h.elim λd h=>k a b c d h.1 h.2.1 h.2.2
theorem Rk{p q r s:α->β->γ->δ->Prop}(h:∃a b c d,p a b c d/\q a b c d/\r a b c d/\s a b c d)(k:∀a b c d,p a b c d->q a b c d->r a b c d->s a b c d->C):C:=h.elim λa h=>h.elim λb h=>h.elim λc h=>h.elim λd h=>k a b c d h.1 h.2.1 h.2.2.1 h.2.2.2
end
section
variable{x y c e i j k m n:Nat}
theorem zl(h:x+1<=e):x<e:=h
theorem zt(h:x<=y)(g:Nat.ble y e=true):x<=e:=Nat.le_trans h (Nat.le_of_ble_eq_true g)
theorem z2(h:x<=y)(g:y+k<=e):x+k<=e:=Nat.le_trans (Nat.add_le_add_right h k) g
theorem z3(g:y+(j+k)<=e):y+j+k<=e:=Nat.add_assoc y j k▸g
theorem z8(g:x<=c+(m+n)):x<=c+m+n:=Nat.add_assoc c m n▸g
theorem zm(g:x<=c+(k*i+k)):x<=c+k*(i+1):=g
theorem zd(g:x<=y):x-k<=y:=Nat.le_trans (Nat.sub_le ..) g
theorem zi(h:i<m)(g:m-1<=e):i<=e:=Nat.le_trans (Nat.le_sub_one_of_lt h) g
end
theorem a1{i n:Nat}(h:i+1<n):i<n-1:=Nat.lt_sub_of_add_lt h
theorem a2{k n j:Nat}(e:k=n-1)(h:j<k):j<n:=Nat.lt_of_lt_of_le h (e▸Nat.sub_le n 1)
theorem a3{k n j:Nat}(e:k=n-1)(h:j<k):j+1<n:=Nat.add_lt_of_lt_sub (e▸h)
theorem a4{k n m:Nat}(e:k=n-1)(h:n<=m):k<=m:=e▸Nat.le_trans (Nat.sub_le n 1) h
theorem a5{n k i:Nat}(h:n-i=k+1):n-(i+1)=k:=by rw[Nat.sub_add_eq,h];rfl
theorem a6{n k i:Nat}(h:n-i=k+1):i<n:=Nat.lt_of_sub_pos (h▸Nat.succ_pos k)
theorem a7{n i:Nat}(h:n-i=0)(k:i<=n):i=n:=Nat.le_antisymm k (Nat.sub_eq_zero_iff_le.mp h)
theorem a8{x:Int}(h:x.natAbs=1)(k:0<x):x=1:=(Int.natAbs_eq x).elim (λe=>e.trans (congrArg Nat.cast h)) λe=>absurd k (by rw[e,h];decide)
theorem a9{x:Int}{n:Nat}(a:0<=x)(h:x<n):x.toNat<n:=(Int.toNat_lt a).mpr h
theorem K7{i n:Nat}(h:i<=n)(k:¬i<n):i=n:=Nat.le_antisymm h (Nat.le_of_not_lt k)
noncomputable def pick{B:World->Prop}(_:Walk=∀w,B w):World:=Classical.choose (w_any B)
theorem A3{B:World->Prop}(e:Walk=∀w,B w)(x:B (pick e)):Walk:=e▸Classical.choose_spec (w_any B) x
noncomputable def w:World:=pick rfl
theorem A4{B:World->Prop}(e:Walk=∀w,B w)(h:pick e=w)(x:B w):Walk:=A3 e (h▸x)
noncomputable section
theorem Hf:LeftO PW qV kD (λ_=>true) HK.obs HK.val 12000:=by
 refine LeftO.of_pieces (H₀:=boot_heap) (H₁:=hp) (gs₀:=#[]) (gs₁:=#[]) (d₀:=boot_drawn) (d₁:={}) (k₀:=boot_toks) (k₁:=1258) (m₀:=11) (ann:=ann) G_ Ha K4 (by rfl) λw=>funext λos=>?_
 exact congr (congrArg Prod.mk (Hb w os)) (congr (congrArg Prod.mk (Hd w os)) (Hc w))
theorem Hg:RW.wellSaid=true:=by
 rw[PySem.W.Fast.te9446332074065402090]
 delta PySem.W.Fast.tw9446332074065402090
 repeat' (with_reducible refine PySem.W.look_both ?_ ?_)
 delta PySem.W.Fast.tw17960256430627541270
 repeat' (with_reducible refine PySem.W.look_both ?_ ?_)
 delta PySem.W.Fast.tw2436336058641802641
 repeat' (with_reducible refine PySem.W.look_both ?_ ?_)
 delta PySem.W.Fast.tw12908688711261696721
 repeat' (with_reducible refine PySem.W.look_both ?_ ?_)
 all_goals decide +kernel
theorem K8:defOf qV (Str.ofString "law")=some (dL,[]):=by kernel_rfl
theorem K9:PW.theDef (Str.ofString "law")=some (dL.params,dL.body,dL.scope):=by kernel_rfl
theorem OF(walk:Walk):RW.Holds:=by
 refine holds_law Hg λK_=>?_
 exact W.holds_open (r:=RW.row) (q:=qV) (loose:=kD) (Xt:=λ_=>true) (XP:=λ_ _=>True) (Yf:=HK.obs) (Ya:=HK.val) (YP:=HK.says) (N:=12000) (d:=dL) (kwd:=[]) Hf HK.of HK.keeps (λ_ _=>trivial) (λ_ _ _ x _=>x) K8 K9 (by kernel_rfl)
  (λs _=>recFacts_of (R:=[]) rfl) rfl K_ (by kernel_rfl) ⟨rfl,rfl,rfl,rfl,rfl,by decide +kernel⟩ (RowW.promised_of_found (by decide +kernel)) walk
end
structure Wp{α:Type}(A:Around)(t:Sem α)(Q:α->Heap->Prop)(E:Value->Heap->Prop)(h:Heap):Prop where
 of::
 go:∀(g:Array GenState) (d:Drawn) (k:Nat) (o:OsState) (Q':α->Shared->Prop) (E':Value->Shared->Prop),
  (∀a h' k',Q a h'->Q' a ⟨h',g,d,k',o⟩)->(∀e h' k',E e h'->E' e ⟨h',g,d,k',o⟩)->wpAny (model PW w) A t Q' E' ⟨h,g,d,k,o⟩
structure Cd(A:Around)(c:Code)(R:Result->Heap->Prop)(h:Heap):Prop where
 of::
 go:∀(g:Array GenState) (d:Drawn) (k:Nat) (o:OsState) (R':Result->Shared->Prop),
  (∀r h' k',R r h'->R' r ⟨h',g,d,k',o⟩)->codeAny (model PW w) A c R' ⟨h,g,d,k,o⟩
section
variable{A:Around}{α β:Type}{E:Value->Heap->Prop}{h:Heap}
theorem Wp.mono{t:Sem α}{Q Q':α->Heap->Prop}{E':Value->Heap->Prop}(x:Wp A t Q E h)(hQ:∀a h,Q a h->Q' a h)(hE:∀e h,E e h->E' e h):Wp A t Q' E' h:=
 .of λg d k o Q1 E1 h1 h2=>x.go g d k o Q1 E1 (λa h' k' q=>h1 a h' k' (hQ _ _ q)) λe h' k' q=>h2 e h' k' (hE _ _ q)
theorem Wp.pure{a:α}{Q:α->Heap->Prop}(x:Q a h):Wp A (Pure.pure a) Q E h:=.of λg d k o Q' E' h1 h2=>wpAny_pure (h1 _ _ _ x)
theorem Wp.bind{m:Sem α}{f:α->Sem β}{Q:β->Heap->Prop}(x:Wp A m (λa h'=>Wp A (f a) Q E h') E h):Wp A (m>>=f) Q E h:=
 .of λg d k o Q' E' h1 h2=>wpAny_bind (x.go g d k o _ _ (λa h' k' q=>q.go g d k' o Q' E' h1 h2) h2)
abbrev Rq(Q E:Value->Heap->Prop)(r:Result)(h:Heap):Prop:=match r with
 | .ok (.ret v)=>Q v h
 | .ok _=>False
 | .error e=>E e h
theorem Wp.call{f:Value}{pos:List Value}{kw:List (Str×Value)}{Q:Value->Heap->Prop}
  (x:Cd A (.call f ⟨pos,kw⟩) (Rq Q E) h):Wp A (call f pos kw) Q E h:=
 .of λg d k o Q' E' h1 h2=>wpAny_call (x.go g d k o _ λr h' k' q=>by
  cases r with
  |ok f=>cases f <;> first|exact h1 _ _ _ q|exact q
  |error e=>exact h2 _ _ _ q)
end
def Sub(g h:Heap):Prop:=∀b o,g.get? b=some o->h.get? b=some o
theorem Sub.refl(h:Heap):Sub h h:=λζ ζ e=>e
theorem Sub.trans{a b c:Heap}(x:Sub a b)(y:Sub b c):Sub a c:=λζ ζ e=>y _ _ (x _ _ e)
noncomputable abbrev o7(vs:List Value)(n:Nat):Obj:={cls:=.type "tuple",data:=.seq vs.toArray n}
noncomputable abbrev nF(vs:List Value)(n:Nat):Obj:={cls:=.type "list",data:=.seq vs.toArray n}
noncomputable def isTup(o:Obj):Bool:=match o.cls,o.data with
 | .type s,.seq _ _=>s=="tuple"
 |_,_=>false
theorem eG(vs:List Value)(n:Nat):isTup (o7 vs n)=true:=rfl
def Tp(h:Heap)(a:Addr)(xs:List Value):Prop:=∃c,h.get? a=some (o7 xs c)
def cy(g h:Heap):Prop:=∀a o,isTup o=true->g.get? a=some o->h.get? a=some o
theorem cy.trans{a b c:Heap}(x:cy a b)(y:cy b c):cy a c:=λζ ζ t e=>y _ _ t (x _ _ t e)
theorem Sub.aj{g h:Heap}(s:Sub g h):cy g h:=λa o ζ e=>s a o e
theorem Tp.up{g h:Heap}{a:Addr}{xs:List Value}(x:Tp g a xs)(s:cy g h):Tp h a xs:=by
 refine aP x λc e=>?_
 clear x
 exact⟨c,s _ _ rfl e⟩
noncomputable abbrev Cell:=Addr×(Obj->Prop)
noncomputable def adr{α:Type}(l:List (Addr×α)):List Addr:=l.map (·.1)
inductive Gt(h:Heap)(a:Addr)(p:Obj->Prop):Prop
 |mk (o:Obj) (e:h.get? a=some o) (k:p o)
theorem Gt.ex{h:Heap}{a:Addr}{p:Obj->Prop}(x:Gt h a p):∃o,h.get? a=some o/\p o:=by
 obtain⟨o,e,k⟩:=x
 exact⟨o,e,k⟩
theorem Gt.of{h:Heap}{a:Addr}{p:Obj->Prop}(x:∃o,h.get? a=some o/\p o):Gt h a p:=by
 refine aU x λo e k=>?_
 clear x
 exact⟨o,e,k⟩
structure Own(l:List Cell)(h:Heap):Prop where
 at':∀p∈l,Gt h p.1 p.2
 nd:(adr l).Nodup
 nt:∀p∈l,∀o,p.2 o->isTup o=false
def Off(g:Heap)(l:List Addr):Prop:=∀b∈l,g.get? b=none
def Frs(ρ:List (Addr×Obj))(h:Heap):Prop:=∀p∈ρ,True/\∃sl,h.get? p.1=some {p.2 with slots:=if isTup p.2 then p.2.slots else sl}
def eH(ρ:List (Addr×Obj)):Prop:=∀p∈ρ,isTup p.2=false
theorem eH.nil:eH []:=λζ hp=>nomatch hp
theorem Frs.nil(h:Heap):Frs [] h:=λζ hp=>nomatch hp
structure Step(ρ:List (Addr×Obj))(l:List Cell)(h:Heap)(l':List Cell)(h':Heap):Prop where
 keep:∀b o,h.get? b=some o->b∉adr l->b∉adr ρ->h'.get? b=some o
 fr:Frs ρ h'
 own:Own l' h'
 new:∀p∈l',p.1∈adr l\/h.get? p.1=none
structure Fx(ρ:List (Addr×Obj))(g:Heap)(L:Addr)(m:Str->Option Value)(l:List Cell)(h:Heap):Prop where
 ns:h.Ns L m
 keep:Sub g h
 max:∀b o,h.get? b=some o->b≠L->b∉adr l->b∉adr ρ->g.get? b=some o
 dz:g.get? L=none
 bo:Off g (adr l)
 bH:Off g (adr ρ)
 cz:L∉adr l/\L∉adr ρ
 cS:∀b∈adr l,b∉adr ρ
 own:Own l h
 fr:Frs ρ h
structure Gr(ρ:List (Addr×Obj))(g h:Heap)(l:List Cell):Prop where
 own:Own l h
 sub:Sub g h
 bo:Off g (adr l)
 bH:Off g (adr ρ)
 cS:∀b∈adr l,b∉adr ρ
 fr:Frs ρ h
 max:∀b o,h.get? b=some o->b∉adr l->b∉adr ρ->g.get? b=some o
inductive Nx(ρ:List (Addr×Obj))(g:Heap)(L:Addr)(m:Str->Option Value)(l:List Cell)(h:Heap):Prop
 |mk (g':Heap) (s:Sub g g') (F:Fx ρ g' L m l h)
inductive Gx(ρ:List (Addr×Obj))(g:Heap)(l:List Cell)(h:Heap):Prop
 |mk (G:Heap) (x:Gr ρ G h l) (s:Sub g G)
inductive Wk(ρ:List (Addr×Obj))(g:Heap)(L:Addr)(m:Str->Option Value)(l l':List Cell)(h:Heap):Prop
 |mk (g':Heap) (s:Sub g g') (k:∀p∈l,p.1∉adr l'->Gt g' p.1 p.2) (F:Fx ρ g' L m l' h)
inductive Pg(ρ:List (Addr×Obj))(g:Heap)(L:Addr)(m:Str->Option Value)(l:List Cell)(h:Heap)(a:Addr)(o:Obj):Prop
 |mk (g':Heap) (s:Sub g g') (e:g'.get? a=some o) (F:Fx ρ g' L m l h)
section
variable{g h h':Heap}{L:Addr}{m m':Str->Option Value}{ρ:List (Addr×Obj)}{l l' l₀ l₁:List Cell}
theorem ax{α:Type}{l:List (Addr×α)}{p:Addr×α}(hp:p∈l):p.1∈adr l:=List.mem_map.mpr ⟨p,hp,rfl⟩
theorem f5{α:Type}{l:List (Addr×α)}{b:Addr}(hb:b∈adr l):∃o,(b,o)∈l:=by
 refine aU (List.mem_map.mp hb) λp hp ak=>?_
 obtain rfl:=ak
 exact⟨p.2,hp⟩
theorem aq{α:Type}{l l':List (Addr×α)}:adr (l++l')=adr l++adr l':=List.map_append
theorem Own.nil(h:Heap):Own [] h:=⟨(λζ hp=>nomatch hp),List.nodup_nil,λζ hp=>nomatch hp⟩
theorem Own.cI(x:Own l h){b:Addr}{o:Obj}(e:h.get? b=some o)(t:isTup o=true):b∉adr l:=λhb=>by
 refine aU (List.mem_map.mp hb) λp hp ak=>?_
 obtain rfl:=ak
 obtain⟨o',h1,h2⟩:=x.at' p hp
 replace h1:=e▸h1
 cases h1
 have:=x.nt p hp _ h2
 replace this:=t▸this
 cases this
theorem Frs.cI(x:Frs ρ h)(nt:eH ρ){b:Addr}{o:Obj}(e:h.get? b=some o)(t:isTup o=true):b∉adr ρ:=λhb=>by
 refine aU (List.mem_map.mp hb) λp hp ak=>?_
 obtain rfl:=ak
 obtain⟨ζ,sl,h1⟩:=x p hp
 have n:=nt p hp
 replace h1:=e▸h1
 have h2:=Option.some.inj h1
 subst h2
 exact absurd t (by refine(show isTup {p.2 with slots:=if isTup p.2 then p.2.slots else sl}=isTup p.2 from rfl).symm▸n.symm▸?_;decide)
theorem Own.of_append(x:Own (l++l') h):Own l h/\Own l' h:=by
 have nd:=x.nd
 replace nd:=aq▸nd
 refine u9 (List.nodup_append.mp nd) λn1 n2 n3=>?_
 exact⟨⟨λp hp=>x.at' p (List.mem_append_left _ hp),n1,λp hp=>x.nt p (List.mem_append_left _ hp)⟩,λp hp=>x.at' p (List.mem_append_right _ hp),n2,λp hp=>x.nt p (List.mem_append_right _ hp)⟩
theorem Own.sub(x:Own l h)(hs:l'.Sublist l):Own l' h:=⟨λp hp=>x.at' p (hs.subset hp),(hs.map _).nodup x.nd,λp hp=>x.nt p (hs.subset hp)⟩
theorem Own.perm(x:Own l h)(hp:l.Perm l'):Own l' h:=⟨λp hq=>x.at' p (hp.mem_iff.mpr hq),(hp.map _).nodup_iff.mp x.nd,λp hq=>x.nt p (hp.mem_iff.mpr hq)⟩
theorem A5{h:Heap}{o:Obj}{b:Addr}(hb:b≠h.objs.size):(h.push o).get? b=h.get? b:=by
 cases q:h.get? b with
 |some x=>exact Heap.get?_push_of_some _ q
 |none=>
  unfold Heap.get? Heap.push at*
  refine Array.getElem?_push.symm▸(if_neg hb).symm▸?_
  exact q
theorem aS(x:h.Ns L m){o:Obj}(e:h.get? L=some o):isTup o=false:=by
 refine A2 x λo' es ep ho hd r=>?_
 clear x
 cases Option.some.inj (e.symm.trans ho)
 unfold isTup
 refine hd.symm▸?_
 generalize Obj.cls _=c
 cases c <;> rfl
theorem Fx.grow(g:Heap)(hn:h.Ns L m)(ho:Own l h)(hr:Frs ρ h)(hs:Sub g h)(dz:g.get? L=none)(bo:Off g (adr l))(bH:Off g (adr ρ))(cz:L∉adr l/\L∉adr ρ)(cS:∀b∈adr l,b∉adr ρ):Nx ρ g L m l h:=by
 have key:∀b o,h.get? b=some o->b≠L->b∉adr l->b∉adr ρ->(hideAll h (L::(adr l++adr ρ))).get? b=some o:=λb o e h1 h2 h3=>
  hideAll_get _ e λq=>(List.mem_cons.mp q).elim h1 λq=>(List.mem_append.mp q).elim h2 h3
 refine⟨hideAll h (L::(adr l++adr ρ)),λb o e=>key b o (hs b o e) ?_ ?_ ?_,hn,λb o e=>of_hideAll _ e,key,hideAll_none _ List.mem_cons_self,λb hb=>hideAll_none _ (List.mem_cons_of_mem _ (List.mem_append_left _ hb)),λb hb=>hideAll_none _ (List.mem_cons_of_mem _ (List.mem_append_right _ hb)),cz,cS,ho,hr⟩
 ·intro q;replace e:=dz▸q▸e;cases e
 ·intro q;replace e:=(bo _ q)▸e;cases e
 ·intro q;replace e:=(bH _ q)▸e;cases e
theorem Fx.aj(F:Fx ρ g L m l h)(nt:eH ρ:=by exact eH.nil):cy h g:=λa o t e=>F.max a o e (λq=>by
  subst q
  have:=aS F.ns e
  replace this:=t▸this;cases this) (F.own.cI e t) (F.fr.cI nt e t)
theorem Gr.aj(x:Gr ρ g h l)(nt:eH ρ:=by exact eH.nil):cy h g:=λa o t e=>x.max a o e (x.own.cI e t) (x.fr.cI nt e t)
theorem Fx.Hh{G:Heap}(F:Fx ρ g L m l h)(s:Sub G h)(hr:Off G (adr ρ)):cy G g:=λa o t e=>F.max a o (s _ _ e) (λq=>by
  subst q
  have:=aS F.ns (s _ _ e)
  replace this:=t▸this;cases this) (F.own.cI (s _ _ e) t) (λq=>by replace e:=(hr _ q)▸e;cases e)
theorem Own.fresh(x:Own l h):h.objs.size∉adr l:=λhb=>by
 refine aU (List.mem_map.mp hb) λp hp e=>?_
 obtain⟨o',h1,ζ⟩:=x.at' p hp
 have:=Heap.lt_size h1
 replace this:=e▸this
 exact Nat.lt_irrefl _ this
theorem Frs.fresh(x:Frs ρ h):h.objs.size∉adr ρ:=λhb=>by
 refine aU (List.mem_map.mp hb) λp hp e=>?_
 obtain⟨ζ,sl,h1⟩:=x p hp
 have:=Heap.lt_size h1
 replace this:=e▸this
 exact Nat.lt_irrefl _ this
theorem Sub.fresh(s:Sub g h):g.get? h.objs.size=none:=by
 cases q:g.get? h.objs.size with
 |none=>rfl
 |some o=>exact absurd (Heap.lt_size (s _ _ q)) (Nat.lt_irrefl _)
theorem Own.up(x:Own l h)(k:∀b∈adr l,h'.get? b=h.get? b):Own l h':=⟨λp hp=>let⟨o,h1,h2⟩:=x.at' p hp;⟨o,(k _ (ax hp)).trans h1,h2⟩,x.nd,x.nt⟩
theorem Own.ups(x:Own l h)(k:Sub h h'):Own l h':=⟨λp hp=>let⟨o,h1,h2⟩:=x.at' p hp;⟨o,k _ _ h1,h2⟩,x.nd,x.nt⟩
theorem Frs.ups(x:Frs ρ h)(k:Sub h h'):Frs ρ h':=λp hp=>let⟨n,sl,e⟩:=x p hp;⟨n,sl,k _ _ e⟩
theorem Fx.ext(F:Fx ρ g L m l h)(k:Sub h h'):Nx ρ g L m l h':=
 Fx.grow g (F.ns.keeps k) (F.own.ups k) (F.fr.ups k) (F.keep.trans k) F.dz F.bo F.bH F.cz F.cS
theorem Fx.push(F:Fx ρ g L m l h)(o:Obj){p:Obj->Prop}(Rl:p o)(ht:∀o,p o->isTup o=false)(hf:o.isFreed=false:=by rfl):Fx ρ g L m ((h.objs.size,p)::l) (h.push o):=by
 have hk:Sub h (h.push o):=λb x e=>Heap.get?_push_of_some _ e
 have hL:h.objs.size≠L:=Nat.ne_of_gt F.ns.lt
 refine⟨F.ns.push o,F.keep.trans hk,λb x e h1 h2 h3=>?_,F.dz,λb hb=>?_,F.bH,⟨λhb=>?_,F.cz.2⟩,λb hb=>?_,⟨λp hp=>?_,?_,λp hp=>?_⟩,F.fr.ups hk⟩
 ·have h2:=not_or.mp λq=>h2 (List.mem_cons.mpr q)
  refine F.max b x ?_ h1 h2.2 h3
  exact(A5 h2.1).symm.trans e
 ·rcases List.mem_cons.mp hb with rfl|hb
  ·exact F.keep.fresh
  ·exact F.bo b hb
 ·rcases List.mem_cons.mp hb with e|hb
  ·exact hL e.symm
  ·exact F.cz.1 hb
 ·rcases List.mem_cons.mp hb with rfl|hb
  ·exact F.fr.fresh
  ·exact F.cS b hb
 ·rcases List.mem_cons.mp hp with rfl|hp
  ·exact⟨o,Heap.get?_push_size _ hf,Rl⟩
  ·obtain⟨o',h1,h2⟩:=F.own.at' p hp
   exact⟨o',hk _ _ h1,h2⟩
 ·exact List.nodup_cons.mpr ⟨F.own.fresh,F.own.nd⟩
 ·rcases List.mem_cons.mp hp with rfl|hp
  ·exact λo h=>ht o h
  ·exact F.own.nt p hp
theorem Fx.yt(F:Fx ρ g L m l h)(o:Obj)(ht:isTup o=true:=by rfl)(hf:o.isFreed=false:=by rfl):Pg ρ g L m l (h.push o) h.objs.size o:=by
 obtain⟨g',s,F'⟩:=F.ext (h':=h.push o) λb x e=>Heap.get?_push_of_some _ e
 exact⟨g',s,F'.max _ _ (Heap.get?_push_size _ hf) (Nat.ne_of_gt F.ns.lt) F.own.fresh F.fr.fresh,F'⟩
theorem Fx.set(F:Fx ρ g L m l h)(hn:h'.Ns L m')(hs:Heap.SameBut L h h'):Fx ρ g L m' l h':=by
 have same:∀b,b≠L->h'.get? b=h.get? b:=λb q=>hs.2 b q
 refine⟨hn,λb o e=>(same b λq=>?_).trans (F.keep b o e),λb o e h1 h2 h3=>F.max b o ((same b h1).symm.trans e) h1 h2 h3,F.dz,F.bo,F.bH,F.cz,F.cS,F.own.up λb hb=>same b λq=>F.cz.1 (q▸hb),λp hp=>?_⟩
 ·replace e:=F.dz▸q▸e;cases e
 ·obtain⟨n,sl,e⟩:=F.fr p hp
  exact⟨n,sl,(same _ λq=>F.cz.2 (q▸ax hp)).trans e⟩
theorem f6(x:h.Ns L m)(k:∀o,h.get? L=some o->h'.get? L=some o):h'.Ns L m:=by
 refine jH x λo es ep ho r=>?_
 clear x
 exact⟨o,es,ep,k _ ho,r⟩
theorem Fx.turn{a:Addr}{p p':Obj->Prop}{o:Obj}(F:Fx ρ g L m (l₀++(a,p)::l₁) h)(hs:Heap.SameBut a h h')(ho:h'.get? a=some o)(hp:p' o)(ht:∀o,p' o->isTup o=false):Fx ρ g L m (l₀++(a,p')::l₁) h':=by
 have same:∀b,b≠a->h'.get? b=h.get? b:=λb q=>hs.2 b q
 have ea:adr (l₀++(a,p')::l₁)=adr (l₀++(a,p)::l₁):=by simp[adr]
 have ma:a∈adr (l₀++(a,p)::l₁):=by simp[adr]
 have nd:=F.own.nd
 have na:∀q∈l₀++l₁,q.1≠a:=λq hq e=>by
  have:(adr (l₀++(a,p)::l₁))=adr l₀++a::adr l₁:=by simp[adr]
  replace nd:=this▸nd
  refine u9 (List.nodup_append.mp nd) λn1 n2 n3=>?_
  rcases List.mem_append.mp hq with hq|hq
  ·exact n3 q.1 (ax hq) a List.mem_cons_self e
  ·exact(List.nodup_cons.mp n2).1 (e▸ax hq)
 have aL:a≠L:=λq=>F.cz.1 (q▸ma)
 refine⟨f6 F.ns λo e=>(same L (Ne.symm aL)).trans e,λb o e=>(same b λq=>?_).trans (F.keep b o e),λb o e h1 h2 h3=>F.max b o ((same b λq=>h2 (by refine ea.symm▸q.symm▸?_;exact ma)).symm.trans e) h1 (ea▸h2) h3,F.dz,ea▸F.bo,F.bH,ea▸F.cz,ea▸F.cS,⟨λq hq=>?_,ea▸nd,λq hq=>?_⟩,λq hq=>?_⟩
 ·replace e:=(F.bo _ ma)▸q▸e;cases e
 ·rcases List.mem_append.mp hq with hq|hq
  ·obtain⟨o',h1,h2⟩:=F.own.at' q (List.mem_append_left _ hq)
   exact⟨o',(same _ (na q (List.mem_append_left _ hq))).trans h1,h2⟩
  ·rcases List.mem_cons.mp hq with rfl|hq
   ·exact⟨o,ho,hp⟩
   ·obtain⟨o',h1,h2⟩:=F.own.at' q (List.mem_append_right _ (List.mem_cons_of_mem _ hq))
    exact⟨o',(same _ (na q (List.mem_append_right _ hq))).trans h1,h2⟩
 ·rcases List.mem_append.mp hq with hq|hq
  ·exact F.own.nt q (List.mem_append_left _ hq)
  ·rcases List.mem_cons.mp hq with rfl|hq
   ·exact ht
   ·exact F.own.nt q (List.mem_append_right _ (List.mem_cons_of_mem _ hq))
 ·obtain⟨n,sl,e⟩:=F.fr q hq
  exact⟨n,sl,(same _ λz=>F.cS _ ma (z▸ax hq)).trans e⟩
theorem Fx.u_(F:Fx ρ g L m (l₀++(l++l₁)) h)(CY:∀b o,h.get? b=some o->b∉adr l->b≠L->b∉adr ρ->h'.get? b=some o)(D1:Own l' h')(La:∀p∈l',p.1∈adr l\/h.get? p.1=none)(hn:h'.Ns L m)(hr:Frs ρ h'):Nx ρ g L m (l₀++(l'++l₁)) h':=by
 have ml:∀b,b∈adr (l₀++(l++l₁))↔b∈adr l₀\/b∈adr l\/b∈adr l₁:=λb=>by rw[aq,aq,List.mem_append,List.mem_append]
 have Lb:∀b,b∈adr (l₀++(l'++l₁))↔b∈adr l₀\/b∈adr l'\/b∈adr l₁:=λb=>by rw[aq,aq,List.mem_append,List.mem_append]
 have nd:=F.own.nd
 replace nd:=aq▸aq▸nd
 refine u9 (List.nodup_append.mp nd) λn1 n2 n3=>?_
 refine u9 (List.nodup_append.mp n2) λn4 n5 n6=>?_
 have at':∀b,b∈adr (l₀++(l++l₁))->∃o,h.get? b=some o:=λb hb=>by
  refine aP (f5 hb) λo ho=>?_
  obtain⟨o',h1,ζ⟩:=F.own.at' _ ho
  exact⟨o',h1⟩
 have yu:∀b∈adr l',b∈adr l\/h.get? b=none:=λb hb=>by
  refine aP (f5 hb) λo ho=>?_
  exact La _ ho
 have kp:∀p∈l₀++l₁,p.1∉adr l->Gt h' p.1 p.2:=λp hp hn=>by
  have hm:p∈l₀++(l++l₁):=by
   rcases List.mem_append.mp hp with q|q
   ·exact List.mem_append_left _ q
   ·exact List.mem_append_right _ (List.mem_append_right _ q)
  obtain⟨o,h1,h2⟩:=F.own.at' p hm
  exact⟨o,CY _ _ h1 hn (λe=>F.cz.1 (e▸ax hm)) λe=>F.cS _ (ax hm) e,h2⟩
 have d0:∀b∈adr l₀,b∉adr l:=λb h1 h2=>n3 b h1 b (List.mem_append_left _ h2) rfl
 have d1:∀b∈adr l₁,b∉adr l:=λb h1 h2=>n6 b h2 b h1 rfl
 refine Fx.grow g hn ⟨λp hp=>?_,?_,λp hp=>?_⟩ hr (λb o e=>CY b o (F.keep b o e) (λq=>?_) (λq=>?_) λq=>?_) F.dz (λb hb=>?_) F.bH ⟨λhb=>?_,F.cz.2⟩ λb hb AI=>?_
 ·rcases List.mem_append.mp hp with hp|hp
  ·exact kp p (List.mem_append_left _ hp) (d0 _ (ax hp))
  ·rcases List.mem_append.mp hp with hp|hp
   ·exact D1.at' p hp
   ·exact kp p (List.mem_append_right _ hp) (d1 _ (ax hp))
 ·refine aq.symm▸aq.symm▸?_
  refine List.nodup_append.mpr ⟨n1,List.nodup_append.mpr ⟨D1.nd,n5,λa ha b hb e=>?_⟩,λa ha b hb e=>?_⟩
  ·subst e
   rcases yu a ha with q|q
   ·exact d1 a hb q
   ·refine aP (at' a ((ml a).mpr (.inr (.inr hb)))) λo ho=>?_
    replace ho:=q▸ho;cases ho
  ·subst e
   rcases List.mem_append.mp hb with hb|hb
   ·rcases yu a hb with q|q
    ·exact d0 a ha q
    ·refine aP (at' a ((ml a).mpr (.inl ha))) λo ho=>?_
     replace ho:=q▸ho;cases ho
   ·exact n3 a ha a (List.mem_append_right _ hb) rfl
 ·rcases List.mem_append.mp hp with hp|hp
  ·exact F.own.nt p (List.mem_append_left _ hp)
  ·rcases List.mem_append.mp hp with hp|hp
   ·exact D1.nt p hp
   ·exact F.own.nt p (List.mem_append_right _ (List.mem_append_right _ hp))
 ·replace e:=(F.bo b ((ml b).mpr (.inr (.inl q))))▸e;cases e
 ·replace e:=F.dz▸q▸e;cases e
 ·replace e:=(F.bH b q)▸e;cases e
 ·rcases(Lb b).mp hb with q|q|q
  ·exact F.bo b ((ml b).mpr (.inl q))
  ·rcases yu b q with q|q
   ·exact F.bo b ((ml b).mpr (.inr (.inl q)))
   ·cases e:g.get? b with
    |none=>rfl
    |some o=>rw[F.keep b o e] at q;cases q
  ·exact F.bo b ((ml b).mpr (.inr (.inr q)))
 ·rcases(Lb L).mp hb with q|q|q
  ·exact F.cz.1 ((ml L).mpr (.inl q))
  ·rcases yu L q with q|q
   ·exact F.cz.1 ((ml L).mpr (.inr (.inl q)))
   ·refine jH F.ns λo ζ ζ ho ζ=>?_
    replace q:=ho▸q;cases q
  ·exact F.cz.1 ((ml L).mpr (.inr (.inr q)))
 ·rcases(Lb b).mp hb with q|q|q
  ·exact F.cS b ((ml b).mpr (.inl q)) AI
  ·rcases yu b q with q|q
   ·exact F.cS b ((ml b).mpr (.inr (.inl q))) AI
   ·refine aU (List.mem_map.mp AI) λp hp ak=>?_
    obtain rfl:=ak
    obtain⟨ζ,sl,e⟩:=F.fr p hp
    replace q:=e▸q;cases q
  ·exact F.cS b ((ml b).mpr (.inr (.inr q))) AI
theorem Fx.mid{ρ':List (Addr×Obj)}(F:Fx ρ g L m (l₀++(l++l₁)) h)(s:Step ρ' l h l' h')(hn:h'.Ns L m)(hr:Frs ρ h')(eX:∀b∈adr ρ',b=L\/b∈adr ρ):Nx ρ g L m (l₀++(l'++l₁)) h':=
 F.u_ (λb o e h1 h2 h3=>s.keep b o e h1 λq=>(eX _ q).elim h2 h3) s.own s.new hn hr
theorem Fx.ja(F:Fx ρ g L m (l₀++(l++l₁)) h)(s:Step [] l h l' h'):Nx ρ g L m (l₀++(l'++l₁)) h':=by
 have inl:∀b,b∈adr l->b∈adr (l₀++(l++l₁)):=λb hb=>by
  refine aq.symm▸aq.symm▸?_;exact List.mem_append_right _ (List.mem_append_left _ hb)
 refine F.mid s (f6 F.ns λo e=>s.keep _ _ e (λq=>F.cz.1 (inl _ q)) (λq=>nomatch q)) (λp hp=>?_) λb hb=>nomatch hb
 obtain⟨n,sl,e⟩:=F.fr p hp
 exact⟨n,sl,s.keep _ _ e (λq=>F.cS _ (inl _ q) (ax hp)) λq=>nomatch q⟩
theorem Fx.aJ(F:Fx ρ g L m l h)(s:Step [] [] h [] h'):Nx ρ g L m l h':=Fx.ja (l₀:=[]) (l:=[]) (l':=[]) F s
theorem Fx.get(F:Fx ρ g L m l h){a:Addr}{p:Obj->Prop}(hm:(a,p)∈l):Gt h a p:=F.own.at' _ hm
theorem Fx.perm(F:Fx ρ g L m l h)(hp:l.Perm l'):Fx ρ g L m l' h:=by
 have e:∀b,b∈adr l'↔b∈adr l:=λb=>(hp.map _).mem_iff.symm
 exact⟨F.ns,F.keep,λb o e1 h1 h2 h3=>F.max b o e1 h1 (λq=>h2 ((e b).mpr q)) h3,F.dz,λb hb=>F.bo b ((e b).mp hb),F.bH,⟨λq=>F.cz.1 ((e _).mp q),F.cz.2⟩,λb hb=>F.cS b ((e b).mp hb),F.own.perm hp,F.fr⟩
theorem Fx.weak(F:Fx ρ g L m l h)(hs:l'.Sublist l):Wk ρ g L m l l' h:=by
 have e:∀b,b∈adr l'->b∈adr l:=λb hb=>(hs.map _).subset hb
 obtain⟨g',s,F'⟩:=Fx.grow g F.ns (F.own.sub hs) F.fr F.keep F.dz (λb hb=>F.bo b (e b hb)) F.bH ⟨λq=>F.cz.1 (e _ q),F.cz.2⟩ λb hb=>F.cS b (e b hb)
 exact⟨g',s,λp hp hn=>let⟨o,h1,h2⟩:=F.own.at' p hp;⟨o,F'.max _ _ h1 (λq=>F.cz.1 (q▸ax hp)) hn (F.cS _ (ax hp)),h2⟩,F'⟩
theorem Fx.map(F:Fx ρ g L m l h)(e:m=m'):Fx ρ g L m' l h:=e▸F
theorem Gr.of(x:Own l h):Gr [] (hideAll h (adr l)) h l:=
 ⟨x,λb o e=>of_hideAll _ e,λb hb=>hideAll_none _ hb,(λb hb=>nomatch hb),(λb hb AI=>nomatch AI),Frs.nil h,λb o e hb ζ=>hideAll_get _ e hb⟩
theorem Gr.nil(h:Heap):Gr [] h h []:=⟨Own.nil h,Sub.refl h,(λb hb=>nomatch hb),(λb hb=>nomatch hb),(λb hb=>nomatch hb),Frs.nil h,λb o e ζ ζ=>e⟩
theorem Fx.gr(F:Fx ρ g L m (l₀++(l++l₁)) h):Gx [] g l h:=by
 have o:=F.own.of_append.2.of_append.1
 refine⟨_,Gr.of o,λb x e=>(Gr.of o).max b x (F.keep b x e) (λq=>?_) λq=>nomatch q⟩
 rw[F.bo b (by refine aq.symm▸aq.symm▸?_;exact List.mem_append_right _ (List.mem_append_left _ q))] at e;cases e
theorem Gr.leave{g':Heap}(x:Gr ρ g h l)(s:Sub g g')(F:Fx ρ g' L m l' h'):Step ρ l h l' h':=by
 refine⟨λb o e hb hr=>F.keep b o (s _ _ (x.max b o e hb hr)),F.fr,F.own,λp hp=>?_⟩
 by_cases hb:p.1∈adr l
 ·exact .inl hb
 ·refine .inr ?_
  cases q:h.get? p.1 with
  |none=>rfl
  |some o=>have:=s _ _ (x.max _ _ q hb (F.cS _ (ax hp)));replace this:=(F.bo _ (ax hp))▸this;cases this
end
noncomputable def mv:List Str->List (Option Value)->Str->Option Value
 |x::ns,v::vs,y=>if y=x then v else mv ns vs y
 |_,_,_=>none
inductive Gs:List Str->Str->Prop
 |hd {x l}:Gs (x::l) x
 |tl {x y l}:Gs l x->Gs (y::l) x
theorem Gs.mem{l:List Str}{x:Str}(a:Gs l x):x∈l:=by
 induction a with
 |hd=>exact List.mem_cons_self
 |tl _ ih=>exact List.mem_cons_of_mem _ ih
inductive Kv{α β:Type}:List (α×β)->α->β->Prop
 |hd {x v l}:Kv ((x,v)::l) x v
 |tl {x v p l}:Kv l x v->Kv (p::l) x v
theorem Kv.mem{α β:Type}{l:List (α×β)}{x:α}{v:β}(a:Kv l x v):(x,v)∈l:=by
 induction a with
 |hd=>exact List.mem_cons_self
 |tl _ ih=>exact List.mem_cons_of_mem _ ih
inductive At:List Str->List (Option Value)->Str->Option Value->Prop
 |hd {x ns v vs}:At (x::ns) (v::vs) x v
 |tl {x y ns u v vs}:At ns vs x v->At (y::ns) (u::vs) x v
inductive A6:List Str->List (Option Value)->Str->Value->List (Option Value)->Prop
 |hd {x ns u v vs}:A6 (x::ns) (u::vs) x v (some v::vs)
 |tl {x y ns u v vs vb}:A6 ns vs x v vb->A6 (y::ns) (u::vs) x v (u::vb)
theorem At.mem{ns:List Str}{vs:List (Option Value)}{x:Str}{v:Option Value}(a:At ns vs x v):x∈ns:=by
 induction a with
 |hd=>exact .head _
 |tl _ ih=>exact .tail _ ih
theorem A6.mem{ns:List Str}{vs vb:List (Option Value)}{x:Str}{v:Value}(a:A6 ns vs x v vb):x∈ns:=by
 induction a with
 |hd=>exact .head _
 |tl _ ih=>exact .tail _ ih
theorem CZ{ns:List Str}{vs:List (Option Value)}{x:Str}{v:Option Value}(hn:ns.Nodup)(a:At ns vs x v):mv ns vs x=v:=by
 induction a with
 |hd=>exact if_pos rfl
 |tl a ih=>
  rw[List.nodup_cons] at hn
  exact(if_neg λe=>hn.1 (by refine e▸?_;exact a.mem)).trans (ih hn.2)
theorem D5{ns:List Str}{vs vb:List (Option Value)}{x:Str}{v:Value}(hn:ns.Nodup)(a:A6 ns vs x v vb):∀z,(if z=x then some v else mv ns vs z)=mv ns vb z:=by
 induction a with
 |@hd x' AJ u' v' JU=>
  intro z
  show(if z=x' then some v' else if z=x' then u' else mv AJ JU z)=if z=x' then some v' else mv AJ JU z
  by_cases e:z=x'
  ·refine(if_pos e).symm▸(if_pos e).symm▸?_
   rfl
  ·refine(if_neg e).symm▸(if_neg e).symm▸(if_neg e).symm▸?_
   rfl
 |@tl x' y' AJ u' v' JU OG a ih=>
  rw[List.nodup_cons] at hn
  have ih:=ih hn.2
  intro z
  show(if z=x' then some v' else if z=y' then u' else mv AJ JU z)=if z=y' then u' else mv AJ OG z
  by_cases h1:z=x'
  ·subst h1
   have ne:¬(z=y'):=λe=>hn.1 (by refine e▸?_;exact a.mem)
   refine(if_pos rfl).symm▸(if_neg ne).symm▸(ih z)▸(if_pos rfl).symm▸?_
   rfl
  ·refine(if_neg h1).symm▸?_
   by_cases h2:z=y'
   ·refine(if_pos h2).symm▸(if_pos h2).symm▸?_
    rfl
   ·refine(if_neg h2).symm▸(if_neg h2).symm▸(ih z)▸(if_neg h1).symm▸?_
    rfl
theorem f7{β:Type}(l:List (Str×β))(y:Str)(hn:(l.map (·.1)).Nodup):l.reverse.lookup y=l.lookup y:=by
 induction l with
 |nil=>rfl
 |cons p l ih=>
  have hn:=List.nodup_cons.mp (show(p.1::l.map (·.1)).Nodup from hn)
  refine List.reverse_cons.symm▸?_
  rw[List.lookup_append]
  refine(ih hn.2).symm▸?_
  show(l.lookup y).or (match y==p.1 with|true=>some p.2|false=>none)=match y==p.1 with|true=>some p.2|false=>l.lookup y
  by_cases e:y=p.1
  ·refine(beq_iff_eq.mpr e).symm▸(List.lookup_eq_none_iff.mpr λq hq=>bne_iff_ne.mpr λz=>hn.1 (List.mem_map.mpr ⟨q,hq,z.symm.trans e⟩)).symm▸?_
   rfl
  ·refine(beq_eq_false_iff_ne.mpr e).symm▸?_
   exact Option.or_none
theorem A7(ns:List Str)(y:Str):mv ns (ns.map λζ=>none) y=none:=by
 induction ns with
 |nil=>rfl
 |cons x ns ih=>exact(congrArg (ite (y=x) none) ih).trans (ite_self _)
theorem yv(ps:List Str)(as:List Value)(rest:List Str)(y:Str)(e:ps.length=as.length):mv (ps++rest) (as.map some++rest.map λζ=>none) y=(ps.zip as).lookup y:=by
 induction ps generalizing as with
 |nil=>cases as with
  |nil=>exact A7 rest y
  |cons _ _=>cases e
 |cons p ps ih=>cases as with
  |nil=>cases e
  |cons a as=>
   show(if y=p then some a else mv (ps++rest) (as.map some++rest.map λζ=>none) y)=match y==p with|true=>some a|false=>(ps.zip as).lookup y
   by_cases h1:y=p
   ·refine(if_pos h1).symm▸(beq_iff_eq.mpr h1).symm▸?_
    rfl
   ·refine(if_neg h1).symm▸(beq_eq_false_iff_ne.mpr h1).symm▸?_
    exact ih as (Nat.succ.inj e)
theorem kE{ps:List Str}{as:List Value}{rest:List Str}(e:ps.length=as.length)(hn:ps.Nodup):(λx=>((ps.zip as).reverse.lookup x))=mv (ps++rest) (as.map some++rest.map λζ=>none):=by
 funext y
 refine(yv ps as rest y e).symm▸?_
 refine f7 _ _ ?_
 have:(ps.zip as).map (·.1)=ps:=by
  rw[List.map_fst_zip];exact Nat.le_of_eq e
 refine this.symm▸?_;exact hn
section
variable{A:Around}{E:Value->Heap->Prop}{h:Heap}{env:Env}
theorem aB{Q:Flow->Heap->Prop}(x:Q .next h):Wp A (execs [] env) Q E h:=.of λg d k o Q' E' hQ hE=>wpAny_execs_nil (hQ _ _ _ x)
theorem au{st rest}{Q:Flow->Heap->Prop}(x:Wp A (exec st env) (λf h'=>match f with| .next=>Wp A (execs rest env) Q E h'|f=>Q f h') E h):Wp A (execs (st::rest) env) Q E h:=
 .of λg d k o Q' E' hQ hE=>wpAny_execs_cons (x.go g d k o _ _ (λf h1 k1 hv=>by
  cases f with
  |next=>exact Wp.go hv g d k1 o Q' E' hQ hE
  |brk=>exact hQ _ _ _ hv
  |cont=>exact hQ _ _ _ hv
  |ret v=>exact hQ _ _ _ hv) hE)
theorem bJ{e pos}{Q:Flow->Heap->Prop}(x:Wp A (eval e env) (λv=>Q (.ret v)) E h):Wp A (exec (.Return (some e) pos) env) Q E h:=
 .of λg d k o Q' E' hQ hE=>wpAny_Return_some (x.go g d k o _ _ (λv h1 k1 hv=>hQ _ _ _ hv) hE)
theorem kF{e pos}{Q:Flow->Heap->Prop}(x:Wp A (eval e env) (λv h'=>v= .none/\Q .next h') E h)(hi:interactive env=false:=by rfl)(hs:swapsWith e none pos.line env=pure false:=by rfl):Wp A (exec (.Expr e pos) env) Q E h:=
 .of λg d k o Q' E' hQ hE=>wpAny_Expr (x.go g d k o _ _ (λv h1 k1 hv=>by obtain⟨rfl,q⟩:=hv;exact hQ _ _ _ q) hE) hi hs
theorem aZ{x' pos' value pos}{Q:Flow->Heap->Prop}(x:Wp A (eval value env) (λv h1=>Wp A (storeName env x' v) (λζ=>Q .next) E h1) E h)
  (hs:swapsWith value (some (.Name x' pos')) pos.line env=pure false:=by rfl):Wp A (exec (.Assign [.Name x' pos'] value pos) env) Q E h:=
 .of λg d k o Q' E' hQ hE=>wpAny_Assign_Name (x.go g d k o _ _ (λv h1 k1 hv=>hv.go g d k1 o _ E' (λζ h2 k2 q=>hQ _ _ _ q) hE) hE) hs
theorem ve{test body orelse pos}{Q:Flow->Heap->Prop}(x:Wp A (isTrue test env (eval test env)) (λb h1=>if b then Wp A (execs body env) Q E h1 else Wp A (execs orelse env) Q E h1) E h):Wp A (exec (.If test body orelse pos) env) Q E h:=
 .of λg d k o Q' E' hQ hE=>wpAny_If (x.go g d k o _ _ (λb h1 k1 hv=>by cases b <;> exact Wp.go hv g d k1 o Q' E' hQ hE) hE)
theorem dT{i k' pos}{Q:Value->Heap->Prop}(x:∀t,Q (.int i t) h):Wp A (eval (.Constant (.int i) k' pos) env) Q E h:=.of λg d k o Q' E' hQ hE=>wpAny_Constant_int (hQ _ _ _ (x _))
theorem yw{k' pos}{Q:Value->Heap->Prop}(x:Q .none h):Wp A (eval (.Constant .none k' pos) env) Q E h:=.of λg d k o Q' E' hQ hE=>wpAny_Constant_none (hQ _ _ _ x)
theorem yx{b k' pos}{Q:Value->Heap->Prop}(x:Q (.bool b) h):Wp A (eval (.Constant (.bool b) k' pos) env) Q E h:=.of λg d k o Q' E' hQ hE=>wpAny_Constant_bool (hQ _ _ _ x)
theorem cJ{s':Str}{k' pos}{Q:Value->Heap->Prop}(x:∀t,Q (.str s' t) h):Wp A (eval (.Constant (.str s') k' pos) env) Q E h:=.of λg d k o Q' E' hQ hE=>wpAny_Constant_str (hQ _ _ _ (x _))
theorem gH{l op r pos}{Q:Value->Heap->Prop}(x:Wp A (eval l env) (λa h1=>Wp A (eval r env) (λb h2=>Wp A (compareOp op a b) Q E h2) E h1) E h)
  (hm:behindInMarks op r=false:=by k_extra "R"):Wp A (eval (.Compare l [op] [r] pos) env) Q E h:=
 .of λg d k o Q' E' hQ hE=>wpAny_Compare1 (x.go g d k o _ _ (λa h1 k1 hv=>hv.go g d k1 o _ E' (λb h2 k2 hw=>hw.go g d k2 o Q' E' hQ hE) hE) hE) hm
theorem gI{l op r pos}{Q:Value->Heap->Prop}(x:Wp A (eval l env) (λa h1=>Wp A (eval r env) (λb h2=>Wp A (binaryOp op a b) Q E h2) E h1) E h):Wp A (eval (.BinOp l op r pos) env) Q E h:=
 .of λg d k o Q' E' hQ hE=>wpAny_BinOp (x.go g d k o _ _ (λa h1 k1 hv=>hv.go g d k1 o _ E' (λb h2 k2 hw=>hw.go g d k2 o Q' E' hQ hE) hE) hE)
theorem sy{op e pos}{Q:Value->Heap->Prop}(x:Wp A (eval e env) (λa h1=>Wp A (unaryOp op a) Q E h1) E h):Wp A (eval (.UnaryOp op e pos) env) Q E h:=
 .of λg d k o Q' E' hQ hE=>wpAny_UnaryOp (x.go g d k o _ _ (λa h1 k1 hv=>hv.go g d k1 o Q' E' hQ hE) hE)
theorem kh{test body orelse pos}{Q:Value->Heap->Prop}(x:Wp A (isTrue test env (eval test env)) (λb h1=>if b then Wp A (eval body env) Q E h1 else Wp A (eval orelse env) Q E h1) E h):Wp A (eval (.IfExp test body orelse pos) env) Q E h:=
 .of λg d k o Q' E' hQ hE=>wpAny_IfExp (x.go g d k o _ _ (λb h1 k1 hv=>by cases b <;> exact Wp.go hv g d k1 o Q' E' hQ hE) hE)
theorem yy{nG sD rest pos}{Q:Value->Heap->Prop}(x:Wp A (eval nG env) (λv h1=>Wp A (truthy v) (λc h2=>if c then Wp A (eval (.BoolOp .And (sD::rest) pos) env) Q E h2 else Q v h2) E h1) E h):Wp A (eval (.BoolOp .And (nG::sD::rest) pos) env) Q E h:=
 .of λg d k o Q' E' hQ hE=>BoolOp_and (x.go g d k o _ _ (λv h1 k1 hv=>hv.go g d k1 o _ E' (λc h2 k2 hw=>by
  cases c
  ·exact hQ _ _ _ hw
  ·exact Wp.go hw g d k2 o Q' E' hQ hE) hE) hE)
theorem Hi{nG sD rest pos}{Q:Value->Heap->Prop}(x:Wp A (eval nG env) (λv h1=>Wp A (truthy v) (λc h2=>if c then Q v h2 else Wp A (eval (.BoolOp .Or (sD::rest) pos) env) Q E h2) E h1) E h):Wp A (eval (.BoolOp .Or (nG::sD::rest) pos) env) Q E h:=
 .of λg d k o Q' E' hQ hE=>BoolOp_or (x.go g d k o _ _ (λv h1 k1 hv=>hv.go g d k1 o _ E' (λc h2 k2 hw=>by
  cases c
  ·exact Wp.go hw g d k2 o Q' E' hQ hE
  ·exact hQ _ _ _ hw) hE) hE)
theorem yz{op e pos}{Q:Value->Heap->Prop}(x:Wp A (eval e env) Q E h):Wp A (eval (.BoolOp op [e] pos) env) Q E h:=.of λg d k o Q' E' hQ hE=>BoolOp_one (x.go g d k o Q' E' hQ hE)
theorem bu{b:Bool}{Q:Bool->Heap->Prop}(x:Q b h):Wp A (truthy (.bool b)) Q E h:=.of λg d k o Q' E' hQ hE=>wpAny_truthy_bool (hQ _ _ _ x)
theorem c5{l op r pos whole}{Q:Bool->Heap->Prop}(x:Wp A (eval l env) (λa h1=>Wp A (eval r env) (λb h2=>Wp A (compareOp op a b) (λc h3=>Wp A (truthy c) Q E h3) E h2) E h1) E h)
  (hm:behindInMarks op r=false:=by k_extra "R"):Wp A (isTrue (.Compare l [op] [r] pos) env whole) Q E h:=
 .of λg d k o Q' E' hQ hE=>wpAny_isTrue_Compare1 (x.go g d k o _ _ (λa h1 k1 hv=>hv.go g d k1 o _ E' (λb h2 k2 hw=>hw.go g d k2 o _ E' (λc h3 k3 hz=>hz.go g d k3 o Q' E' hQ hE) hE) hE) hE) hm
theorem jb{e pos whole}{Q:Bool->Heap->Prop}(x:Wp A (isTrue e env (eval e env)) (λc h1=>Q (!c) h1) E h):Wp A (isTrue (.UnaryOp .Not e pos) env whole) Q E h:=
 .of λg d k o Q' E' hQ hE=>isTrue_not (x.go g d k o _ _ (λc h1 k1 hv=>hQ _ _ _ hv) hE)
theorem jc{e rest pos whole}{Q:Bool->Heap->Prop}(x:Wp A (isTrue e env (eval e env)) (λc h1=>if c then Wp A (isTrue (.BoolOp .And rest pos) env whole) Q E h1 else Q false h1) E h):Wp A (isTrue (.BoolOp .And (e::rest) pos) env whole) Q E h:=
 .of λg d k o Q' E' hQ hE=>isTrue_and (x.go g d k o _ _ (λc h1 k1 hv=>by
  cases c
  ·exact hQ _ _ _ hv
  ·exact Wp.go hv g d k1 o Q' E' hQ hE) hE)
theorem uh{pos whole}{Q:Bool->Heap->Prop}(x:Q true h):Wp A (isTrue (.BoolOp .And [] pos) env whole) Q E h:=.of λg d k o Q' E' hQ hE=>isTrue_and_nil (hQ _ _ _ x)
theorem kG{e rest pos whole}{Q:Bool->Heap->Prop}(x:Wp A (isTrue e env (eval e env)) (λc h1=>if c then Q true h1 else Wp A (isTrue (.BoolOp .Or rest pos) env whole) Q E h1) E h):Wp A (isTrue (.BoolOp .Or (e::rest) pos) env whole) Q E h:=
 .of λg d k o Q' E' hQ hE=>isTrue_or (x.go g d k o _ _ (λc h1 k1 hv=>by
  cases c
  ·exact Wp.go hv g d k1 o Q' E' hQ hE
  ·exact hQ _ _ _ hv) hE)
theorem nH{pos whole}{Q:Bool->Heap->Prop}(x:Q false h):Wp A (isTrue (.BoolOp .Or [] pos) env whole) Q E h:=.of λg d k o Q' E' hQ hE=>isTrue_or_nil (hQ _ _ _ x)
theorem eI{e:Expr}{whole:Sem Value}{Q:Bool->Heap->Prop}(x:Wp A whole (λv h1=>Wp A (truthy v) Q E h1) E h)
  (he:isTrue e env whole=(do let v <-whole;standAt e.pos;holding [v] (truthy v)):=by rfl):Wp A (isTrue e env whole) Q E h:=
 .of λg d k o Q' E' hQ hE=>isTrue_plain (x.go g d k o _ _ (λv h1 k1 hv=>hv.go g d k1 o Q' E' hQ hE) hE) he
theorem yA{l yB yC ops D6 D7 rs pos whole}{Q:Bool->Heap->Prop}(x:Wp A (eval l env) (λa h1=>Wp A (testChain pos a (yB::yC::ops) (eval D6 env::eval D7 env::evalEach rs env)) Q E h1) E h)
  (hm:lastMarks (yB::yC::ops) (D6::D7::rs)=false:=by k_extra "R"):Wp A (isTrue (.Compare l (yB::yC::ops) (D6::D7::rs) pos) env whole) Q E h:=
 .of λg d k o Q' E' hQ hE=>isTrue_chain (x.go g d k o _ _ (λa h1 k1 hv=>hv.go g d k1 o Q' E' hQ hE) hE) hm
theorem yD{value:Expr}{attr:Str}{pos:Pos}{Q:Value->Heap->Prop}(x:Wp A (eval value env) (λv h1=>Wp A (getAttr v attr true) Q E h1) E h)
  (he:eval (.Attribute value attr pos) env=(do
   let o <-eval value env
   standAt pos.atName
   let r <-holding [o] (getAttr o attr true)
   letTemporaryGo value o r
   pure r):=by k_extra "R"):Wp A (eval (.Attribute value attr pos) env) Q E h:=
 .of λg d k o Q' E' hQ hE=>Attribute_any_ (x.go g d k o _ _ (λv h1 k1 hv=>hv.go g d k1 o Q' E' hQ hE) hE) he
theorem iH{value slice pos}{Q:Value->Heap->Prop}(x:Wp A (eval value env) (λo h1=>Wp A (eval slice env) (λi h2=>Wp A (subscriptTail value slice o i) Q E h2) E h1) E h):Wp A (eval (.Subscript value slice pos) env) Q E h:=
 .of λg d k o Q' E' hQ hE=>Subscript_ (x.go g d k o _ _ (λv h1 k1 hv=>hv.go g d k1 o _ E' (λi h2 k2 hw=>hw.go g d k2 o Q' E' hQ hE) hE) hE)
theorem bw{func:Expr}{args:List Expr}{pos:Pos}{Q:Value->Heap->Prop}(x:Wp A (eval func env) (λf h1=>Wp A (callWith pos f [] (backTo pos (starEach args env)) []) Q E h1) E h)
  (he:eval (.Call func args [] pos) env=(do callWith pos (<-eval func env) [] (backTo pos (starEach args env)) (backToKw pos (keywordEach [] env))):=by rfl):Wp A (eval (.Call func args [] pos) env) Q E h:=
 .of λg d k o Q' E' hQ hE=>Call_ (x.go g d k o _ _ (λv h1 k1 hv=>hv.go g d k1 o Q' E' hQ hE) hE) he
theorem dH{e:Expr}{name:Str}{apos pos:Pos}{args:List Expr}{pl:Sem Bool}{Q:Value->Heap->Prop}
  (x:Wp A (eval e env) (λov h1=>Wp A (getMethod ov name pl) (λfx h2=>Wp A (callWith pos fx.1 fx.2 (backTo pos (starEach args env)) []) Q E h2) E h1) E h)
  (he:eval (.Call (.Attribute e name apos) args [] pos) env=(do
   let ov <-eval e env
   standAt apos.atName
   let(f,first) <-holding [ov] (getMethod ov name pl)
   callWith pos f first (backTo pos (starEach args env)) []):=by rfl):Wp A (eval (.Call (.Attribute e name apos) args [] pos) env) Q E h:=
 .of λg d k o Q' E' hQ hE=>MethodCall_ (x.go g d k o _ _ (λv h1 k1 hv=>hv.go g d k1 o _ E' (λfx h2 k2 hw=>hw.go g d k2 o Q' E' hQ hE) hE) hE) he
theorem aC{pos:Pos}{Q:List Value->Heap->Prop}(x:Q [] h):Wp A (spliced (backTo pos (starEach [] env))) Q E h:=.of λg d k o Q' E' hQ hE=>args_nil (hQ _ _ _ x)
theorem az{e:Expr}{rest:List Expr}{pos:Pos}{Q:List Value->Heap->Prop}(x:Wp A (eval e env) (λv h1=>Wp A (spliced (backTo pos (starEach rest env))) (λvs h2=>Q (v::vs) h2) E h1) E h)
  (he:starEach (e::rest) env=(false,eval e env)::starEach rest env:=by rfl):Wp A (spliced (backTo pos (starEach (e::rest) env))) Q E h:=
 .of λg d k o Q' E' hQ hE=>args_cons (x.go g d k o _ _ (λv h1 k1 hv=>hv.go g d k1 o _ E' (λi h2 k2 hw=>hQ _ _ _ hw) hE) hE) he
theorem D8{pos:Pos}{f:Addr}{ob:Obj}{fd:FuncData}{first:List Value}{e:Expr}{rest:List Expr}{Q:Value->Heap->Prop}(hd:ob.data= .func fd)
  (x:Wp A (spliced (backTo pos (starEach (e::rest) env))) (λvs h1=>h1.get? f=some ob/\Wp A (call (.ref f) (first++vs)) Q E h1) E h)
  (he:starEach (e::rest) env=(false,eval e env)::starEach rest env:=by rfl):Wp A (callWith pos (.ref f) first (backTo pos (starEach (e::rest) env)) []) Q E h:=
 .of λg d k o Q' E' hQ hE=>by
  have q:=x.go g d k o (λvs s'=>(s'.heap.get? f=some ob/\ob.data= .func fd)/\wpAny (model PW w) A (call (.ref f) (first++vs)) Q' E' s') E' (λvs h1 k1 hv=>⟨⟨hv.1,hd⟩,hv.2.go g d k1 o Q' E' hQ hE⟩) hE
  rw[he] at q ⊢
  exact callWith_function (o:=ob) (fd:=fd) (evalArgs_plain q)
theorem A8{pos:Pos}{f:Addr}{ob:Obj}{fd:FuncData}{first:List Value}{Q:Value->Heap->Prop}(hd:ob.data= .func fd)(ho:h.get? f=some ob)
  (x:Wp A (call (.ref f) (first++[])) Q E h):Wp A (callWith pos (.ref f) first (backTo pos (starEach [] env)) []) Q E h:=
 .of λg d k o Q' E' hQ hE=>callWith_function (o:=ob) (fd:=fd) (PySem.evalArgs_none ⟨⟨ho,hd⟩,x.go g d k o Q' E' hQ hE⟩)
theorem eY{pos:Pos}{id:String}{first:List Value}{e:Expr}{rest:List Expr}{Q:Value->Heap->Prop}
  (x:Wp A (spliced (backTo pos (starEach (e::rest) env))) (λvs h1=>Wp A (call (.builtin id) (first++vs)) Q E h1) E h)
  (he:starEach (e::rest) env=(false,eval e env)::starEach rest env:=by rfl)(hp:(backTo pos (starEach rest env)).any (·.1)=false:=by rfl):Wp A (callWith pos (.builtin id) first (backTo pos (starEach (e::rest) env)) []) Q E h:=
 .of λg d k o Q' E' hQ hE=>by
  have q:=x.go g d k o (λvs s'=>wpAny (model PW w) A (call (.builtin id) (first++vs)) Q' E' s') E' (λvs h1 k1 hv=>hv.go g d k1 o Q' E' hQ hE) hE
  rw[he] at q ⊢
  exact callWith_builtin (by show(false||(backTo pos (starEach rest env)).any (·.1))=false;refine hp.symm▸?_;rfl) (evalArgs_plain q)
end
structure Ev(env:Env)(L:Addr)(ns gs:List Str):Prop where
 kind:env.scope.kind= .function
 loc:env.locals=L
 AK:env.globals=mainGlobals
 Gn:env.builtins=builtinsNs
 nd:ns.Nodup
 lk:∀y∈ns,env.kindOf y=some .local/\(y==("__debug__":Str))=false
 gk:∀y∈gs,env.kindOf y=some .globalImplicit/\(y==("__debug__":Str))=false
structure o8(mg mb:Str->Option Value)(g:Heap):Prop where
 C1:∀p∈K w.params,g.get? p.1=some p.2
 glob:g.Ns mainGlobals mg
 blt:g.Ns builtinsNs mb
 lim:g.NoLimit
 bv:∀x:Str,x≠("__name__":Str)->mb x=bootBuiltins x
theorem o8.up{mg mb:Str->Option Value}{g h:Heap}(G:o8 mg mb g)(s:Sub g h):o8 mg mb h:=
 ⟨λp hp=>s _ _ (G.C1 p hp),G.glob.keeps s,G.blt.keeps s,(let⟨mc,a,b⟩:=G.lim;⟨mc,a.keeps s,b⟩),G.bv⟩
def Gd(g:Heap):Prop:=∃mg mb,o8 mg mb g
theorem Gd.up{g h:Heap}(G:Gd g)(s:Sub g h):Gd h:=by
 refine nE G λmg mb x=>?_
 clear G
 exact⟨mg,mb,x.up s⟩
theorem Gd.C1{g:Heap}(G:Gd g):∀p∈K w.params,g.get? p.1=some p.2:=by
 refine nE G λζ ζ x=>?_
 clear G
 exact x.C1
theorem Gd.lim{g:Heap}(G:Gd g):g.NoLimit:=by
 refine nE G λζ ζ x=>?_
 clear G
 exact x.lim
section
variable{A:Around}{E:Value->Heap->Prop}{h g:Heap}{env:Env}{L:Addr}{ns gs:List Str}{vs vb:List (Option Value)}{ρ:List (Addr×Obj)}{l:List Cell}{mg mb:Str->Option Value}
theorem A9{x:Str}{pos:Pos}{v:Value}{Q:Value->Heap->Prop}(O:Ev env L ns gs)(F:Fx ρ g L (mv ns vs) l h)(a:At ns vs x (some v))(k:Q v h):Wp A (eval (.Name x pos) env) Q E h:=
 .of λgg d kk o Q' E' hQ hE=>wpAny_Name (wpAny_loadName_local O.kind (O.lk _ a.mem).1 (O.loc▸F.ns) (CZ O.nd a) (hQ _ _ _ k)) (O.lk _ a.mem).2
theorem yE{x:Str}{pos:Pos}{v:Value}{Q:Value->Heap->Prop}(O:Ev env L ns gs)(F:Fx ρ g L (mv ns vs) l h)(G:o8 mg mb g)(hx:x∈gs)(hv:mg x=some v)(k:Q v h):Wp A (eval (.Name x pos) env) Q E h:=
 .of λgg d kk o Q' E' hQ hE=>Name_function_global O.kind (O.gk _ hx).1 (loadGlobal_global (O.AK▸(G.up F.keep).glob) hv (hQ _ _ _ k)) (O.gk _ hx).2
theorem vf{x:Str}{pos:Pos}{v:Value}{Q:Value->Heap->Prop}(O:Ev env L ns gs)(F:Fx ρ g L (mv ns vs) l h)(G:o8 mg mb g)(hx:x∈gs)(hn:mg x=none)(hv:mb x=some v)(k:Q v h):Wp A (eval (.Name x pos) env) Q E h:=
 .of λgg d kk o Q' E' hQ hE=>Name_function_global O.kind (O.gk _ hx).1 (loadGlobal_builtin (O.AK▸(G.up F.keep).glob) hn (O.Gn▸(G.up F.keep).blt) hv (hQ _ _ _ k)) (O.gk _ hx).2
theorem A_{x:Str}{v:Value}{Q:Unit->Heap->Prop}(O:Ev env L ns gs)(F:Fx ρ g L (mv ns vs) l h)(p:A6 ns vs x v vb)(k:∀h',Fx ρ g L (mv ns vb) l h'->Q () h'):Wp A (storeName env x v) Q E h:=
 .of λgg d kk o Q' E' hQ hE=>wpAny_storeName_local (O.lk _ p.mem).1 (O.loc▸F.ns) (λh' hn hs=>hQ _ _ _ (k h' (F.set ((funext (D5 O.nd p))▸(O.loc▸hn)) (O.loc▸hs))))
  (by refine O.kind.symm▸?_;rfl)
end
structure Rm(A:Around)(k:Nat):Prop where
 hd:A.handled=none
 dp:A.depth+k<=900
 un:A.units+10*k<=9000
theorem Rm.deeper{A:Around}{k:Nat}{env:Env}(x:Rm A (k+1)):Rm (A.deeper env) k:=⟨x.hd,by have:=x.dp;show A.depth+1+k<=900;exact Nat.le_trans (Nat.le_of_eq (by rw[Nat.add_assoc,Nat.add_comm 1])) this,by have:=x.un;show A.units+3+10*k<=9000;lia⟩
theorem Rm.less{A:Around}{k j:Nat}(x:Rm A k)(h:j<=k):Rm A j:=⟨x.hd,Nat.le_trans (Nat.add_le_add_left h _) x.dp,Nat.le_trans (Nat.add_le_add_left (Nat.mul_le_mul_left 10 h) _) x.un⟩
theorem Rm.room{A:Around}{k:Nat}(x:Rm A k):A.depth<recursionLimit:=by have:=x.dp;show A.depth<1000;lia
def Bt(n:Nat)(x:Int):Prop:=x.natAbs<2 ^ n
theorem Bt.mono{n m:Nat}{x:Int}(h:Bt n x)(e:n<=m):Bt m x:=Nat.lt_of_lt_of_le h (Nat.pow_le_pow_right (by decide) e)
theorem Bt.mul{n m:Nat}{x y:Int}(hx:Bt n x)(hy:Bt m y):Bt (n+m) (x*y):=by
 unfold Bt at*
 refine(Int.natAbs_mul ..).symm▸(Nat.pow_add ..).symm▸?_
 exact Nat.mul_lt_mul'' hx hy
theorem Bt.add{n:Nat}{x y:Int}(hx:Bt n x)(hy:Bt n y):Bt (n+1) (x+y):=by
 unfold Bt at*
 have:=Int.natAbs_add_le x y
 refine(Nat.pow_succ ..).symm▸?_;exact Nat.lt_of_le_of_lt (Int.natAbs_add_le x y) (Nat.mul_two _▸Nat.add_lt_add hx hy)
theorem Bt.neg{n:Nat}{x:Int}(hx:Bt n x):Bt n (-x):=by unfold Bt at*;refine(Int.natAbs_neg ..).symm▸?_;exact hx
theorem Bt.of_le{n:Nat}{x y:Int}(hy:Bt n y)(h:x.natAbs<=y.natAbs):Bt n x:=Nat.lt_of_le_of_lt h hy
theorem Bt.bits{n:Nat}{x:Int}(h:Bt n x):Builtin.Int.intBits x<=n:=PyProof.Rows.intBits_le h
theorem Hj{n m:Nat}{x y:Int}(hx:Bt n x)(hy:Bt m y)(e:n+m<=134217728):IntMulOk x y:=by
 unfold IntMulOk
 intro h
 simp only[Bool.and_eq_true,decide_eq_true_eq] at h
 have h3:=h.2
 unfold Builtin.Int.intTooBig at h3
 have h1:=hx.bits
 have h2:=hy.bits
 have:(Builtin.Int.intBits x+Builtin.Int.intBits y:Int)>(bitsLine:Int):=by simpa using h3
 have e2:bitsLine=134217728:=by decide
 lia
theorem noPylong{n:Nat}{x y:Int}(hy:Bt n y)(e:n<=9000):¬(Builtin.divisionGoesByPylong x y)=true:=by
 unfold Builtin.divisionGoesByPylong
 intro h
 simp only[Bool.and_eq_true,decide_eq_true_eq] at h
 refine i_ h λh ζ=>?_
 by_cases h0:y=0
 ·subst h0;simp at h
 ·have hb:=hy.bits
  unfold Builtin.Int.intBits at hb
  have:(y==0)=false:=beq_eq_false_iff_ne.mpr h0
  simp only[this,Bool.false_eq_true,if_false] at h hb
  lia
section
variable{A:Around}{E:Value->Heap->Prop}{h:Heap}{a b:Int}{t u:Tok}
theorem ui{Q:Value->Heap->Prop}(k:∀t,Q (.int (a+b) t) h):Wp A (binaryOp .Add (.int a t) (.int b u)) Q E h:=.of λg d kk o Q' E' hQ hE=>PySem.P.add_int (hQ _ _ _ (k _))
theorem nI{Q:Value->Heap->Prop}(k:∀t,Q (.int (a-b) t) h):Wp A (binaryOp .Sub (.int a t) (.int b u)) Q E h:=.of λg d kk o Q' E' hQ hE=>PySem.P.sub_int (hQ _ _ _ (k _))
theorem cT{n m:Nat}{Q:Value->Heap->Prop}(hx:Bt n a)(hy:Bt m b)(e:n+m<=134217728)(k:∀t,Q (.int (a*b) t) h):Wp A (binaryOp .Mult (.int a t) (.int b u)) Q E h:=.of λg d kk o Q' E' hQ hE=>PySem.P.mul_int (hQ _ _ _ (k _)) (Hj hx hy e)
theorem uj{Q:Value->Heap->Prop}(hb:b≠0)(k:∀t,Q (.int (a.fmod b) t) h):Wp A (binaryOp .Mod (.int a t) (.int b u)) Q E h:=.of λg d kk o Q' E' hQ hE=>PySem.AutoIntOps.mod_1 (by simpa using hb) (hQ _ _ _ (k _))
theorem kH{n:Nat}{Q:Value->Heap->Prop}(hb:b≠0)(hy:Bt n b)(e:n<=9000)(k:∀t,Q (.int (a.fdiv b) t) h):Wp A (binaryOp .FloorDiv (.int a t) (.int b u)) Q E h:=.of λg d kk o Q' E' hQ hE=>PySem.AutoIntOps.floordiv_1 (by simpa using hb) (noPylong hy e) (hQ _ _ _ (k _))
theorem C3{Q:Value->Heap->Prop}(k:∀t,Q (.int (-a) t) h):Wp A (unaryOp .USub (.int a t)) Q E h:=.of λg d kk o Q' E' hQ hE=>PySem.P.neg_int (hQ _ _ _ (k _))
theorem vg{Q:Value->Heap->Prop}(k:Q (.bool (a==b)) h):Wp A (compareOp .Eq (.int a t) (.int b u)) Q E h:=.of λg d kk o Q' E' hQ hE=>PySem.P.eq_int (hQ _ _ _ k)
theorem Ba{Q:Value->Heap->Prop}(k:Q (.bool (a !=b)) h):Wp A (compareOp .NotEq (.int a t) (.int b u)) Q E h:=.of λg d kk o Q' E' hQ hE=>PySem.P.ne_int (hQ _ _ _ k)
theorem Hk{Q:Value->Heap->Prop}(k:Q (.bool (decide (a<b))) h):Wp A (compareOp .Lt (.int a t) (.int b u)) Q E h:=.of λg d kk o Q' E' hQ hE=>PySem.P.lt_int (hQ _ _ _ k)
theorem Hl{Q:Value->Heap->Prop}(k:Q (.bool (decide (a<=b))) h):Wp A (compareOp .LtE (.int a t) (.int b u)) Q E h:=.of λg d kk o Q' E' hQ hE=>PySem.P.le_int (hQ _ _ _ k)
theorem Hm{Q:Value->Heap->Prop}(k:Q (.bool (decide (a>b))) h):Wp A (compareOp .Gt (.int a t) (.int b u)) Q E h:=.of λg d kk o Q' E' hQ hE=>PySem.P.gt_int (hQ _ _ _ k)
theorem Hn{Q:Value->Heap->Prop}(k:Q (.bool (decide (a>=b))) h):Wp A (compareOp .GtE (.int a t) (.int b u)) Q E h:=.of λg d kk o Q' E' hQ hE=>PySem.P.ge_int (hQ _ _ _ k)
end
section
variable{A:Around}{E:Value->Heap->Prop}{h h' g:Heap}{env:Env}{L:Addr}{m:Str->Option Value}{ns gs:List Str}{vs vb:List (Option Value)}{ρ:List (Addr×Obj)}{l l' l₁:List Cell}{mg mb:Str->Option Value}
theorem C4{a:Int}{t:Tok}{Q:Value->Heap->Prop}(k:∀u,Q (.int (if a<0 then -a else a) u) h):Wp A (call (.builtin "abs") ([]++[.int a t])) Q E h:=.of λg d kk o Q' E' hQ hE=>call_abs_int λu tk=>hQ _ _ _ (k u)
theorem jI{h h':Heap}(x:Heap.ExtBut h.objs.size h h'):Sub h h':=λb o e=>x b o (Nat.ne_of_lt (Heap.lt_size e)) e
theorem iI{a:Addr}{vs:List Value}{n:Nat}(e:h.get? a=some (o7 vs n)):IsTup h a vs.toArray:=⟨_,e,rfl,n,rfl⟩
theorem nJ{value slice:Expr}{a:Addr}{xs:List Value}{i:Int}{u:Tok}{v:Value}{Q:Value->Heap->Prop}(e:Tp h a xs)(h0:0<=i)(h1:i<2 ^ 62)(hx:xs[i.toNat]? =some v)(k:Q v h)
  (hs:subscripted slice false (.ref a) (.int i u)=operate [.ref a,.int i u] (getItem (.ref a) (.int i u)):=by k_extra "R"):Wp A (subscriptTail value slice (.ref a) (.int i u)) Q E h:=.of λg d kk o Q' E' hQ hE=>by
 refine aP e λn e=>?_
 have hl:i.toNat<xs.length:=(List.getElem?_eq_some_iff.mp hx).1
 exact item_tupleT (s:=⟨h,g,d,kk,o⟩) (iI e) (by lia) (by lia) (j:=i.toNat) (by
  simp only[seqIndex?]
  have h3:¬(i<0):=by lia
  have h4:(0<=i/\i<(xs.length:Int)):=⟨h0,(Int.toNat_lt h0).mp hl⟩
  simp[h3,h4]) (by simpa using hx) (hQ _ _ _ k) hs
theorem cK{elts:List Expr}{k':Nat}{pos:Pos}{Q:Value->Heap->Prop}(x:Wp A (spliced (backTo pos (starEach elts env))) (λvs h1=>Wp A (newTuple vs) Q E h1) E h):Wp A (eval (.Tuple elts k' pos) env) Q E h:=
 .of λg d kk o Q' E' hQ hE=>Tuple_ (x.go g d kk o _ _ (λvs h1 k1 hv=>hv.go g d k1 o Q' E' hQ hE) hE)
theorem bV{elts:List Expr}{pos:Pos}{Q:Value->Heap->Prop}(x:Wp A (spliced (backTo pos (starEach elts env))) (λvs h1=>Wp A (newList vs) Q E h1) E h):Wp A (eval (.List elts pos) env) Q E h:=
 .of λg d kk o Q' E' hQ hE=>List_ (x.go g d kk o _ _ (λvs h1 k1 hv=>hv.go g d k1 o Q' E' hQ hE) hE)
theorem bh{xs:List Value}{Q:Value->Heap->Prop}(F:Fx ρ g L m l h)(hY:xs.length<=1000)(k:∀a g' h',Sub g g'->Tp g' a xs->Fx ρ g' L m l h'->Q (.ref a) h'):Wp A (newTuple xs) Q E h:=
 .of λgg d kk o Q' E' hQ hE=>wpAny_newObj_type (by
  obtain⟨g',s,t,F'⟩:=F.yt (o7 xs 0)
  exact hQ _ _ _ (k _ g' _ s ⟨0,t⟩ F')) (by show xs.toArray.size<=sizeLine;refine List.size_toArray.symm▸?_;exact Nat.le_trans hY (by decide))
def Lo(xs:List Value):Obj->Prop:=λo=>o.cls= .type "list"/\o.dict=none/\∃n,o.data= .seq xs.toArray n
theorem Lo.nt{xs:List Value}:∀o,Lo xs o->isTup o=false:=λo h=>by
 obtain⟨h1,ζ,n,h3⟩:=h
 unfold isTup
 refine h1.symm▸h3.symm▸?_;rfl
theorem Lo.isList{xs:List Value}{a:Addr}{o:Obj}(x:Lo xs o)(e:h.get? a=some o):h.IsList a xs.toArray:=by
 obtain⟨h1,ζ,n,h3⟩:=x
 exact⟨o,e,h1,n,h3⟩
theorem Lo.plain{xs:List Value}{a:Addr}{o:Obj}(x:Lo xs o)(e:h.get? a=some o):PlainL h a xs.toArray:=by
 obtain⟨h1,h2,n,h3⟩:=x
 exact⟨o,n,e,h1,h2,h3⟩
theorem Lo.yF{xs:Array Value}{a:Addr}(x:PlainL h a xs):Gt h a (Lo xs.toList):=by
 refine Rh x λo n e h1 h2 h3=>?_
 clear x
 exact⟨o,e,h1,h2,n,by simpa using h3⟩
theorem gJ{xs:List Value}{Q:Value->Heap->Prop}(F:Fx ρ g L m l h)(hY:xs.length<=1000)(k:∀a h',Fx ρ g L m ((a,Lo xs)::l) h'->Q (.ref a) h'):Wp A (newList xs) Q E h:=
 .of λgg d kk o Q' E' hQ hE=>wpAny_newObj_type (hQ _ _ _ (k _ _ (F.push (nF xs 0) ⟨rfl,rfl,0,rfl⟩ Lo.nt))) (by show xs.toArray.size<=sizeLine;refine List.size_toArray.symm▸?_;exact Nat.le_trans hY (by decide))
def Ls(h:Heap)(a:Addr)(xs:List Value):Prop:=Gt h a (Lo xs)
theorem Ls.up{g h:Heap}{a:Addr}{xs:List Value}(x:Ls g a xs)(s:Sub g h):Ls h a xs:=by
 obtain⟨o,e,p⟩:=x
 exact⟨o,s _ _ e,p⟩
theorem Fx.ls{a:Addr}{xs:List Value}(F:Fx ρ g L m l h)(hm:(a,Lo xs)∈l):Ls h a xs:=F.get hm
theorem ki{value slice:Expr}{a:Addr}{xs:List Value}{i:Int}{u:Tok}{v:Value}{Q:Value->Heap->Prop}(e:Ls h a xs)(h0:0<=i)(h1:i<2 ^ 62)(hx:xs[i.toNat]? =some v)(k:Q v h)
  (hs:subscripted slice false (.ref a) (.int i u)=operate [.ref a,.int i u] (getItem (.ref a) (.int i u)):=by k_extra "R"):Wp A (subscriptTail value slice (.ref a) (.int i u)) Q E h:=.of λg d kk o Q' E' hQ hE=>by
 obtain⟨ob,e,p⟩:=e
 exact tail_any (p.isList e).typeIs slot_list_getitem.lookup (wpAny_getItem_list (s:=⟨h,g,d,kk,o⟩) (p.isList e) h0 (by lia) (by simpa using hx) (hQ _ _ _ k)) hs
theorem kI{a:Addr}{xs:List Value}{v:Value}{l₀ l₁:List Cell}{Q:Value->Heap->Prop}(F:Fx ρ g L m (l₀++(a,Lo xs)::l₁) h)(hY:xs.length<=10000)(k:∀h',Fx ρ g L m (l₀++(a,Lo (xs++[v]))::l₁) h'->Q .none h'):Wp A (call (.builtin "list.append") [.ref a,v]) Q E h:=
 .of λgg d kk o Q' E' hQ hE=>by
  obtain⟨ob,e,p⟩:=F.get (a:=a) (p:=Lo xs) (List.mem_append_right _ List.mem_cons_self)
  refine list_append_plainL (s:=⟨h,gg,d,kk,o⟩) (p.plain e) (λh' x y=>hQ _ _ _ (k h' ?_)) (by show xs.toArray.size<=sizeLine;refine List.size_toArray.symm▸?_;exact Nat.le_trans hY (by decide))
  obtain⟨o',e',p'⟩:=Lo.yF x
  exact F.turn y e' (by simpa using p') Lo.nt
theorem jd{elts:List Expr}{k' eJ value pos}{Q:Flow->Heap->Prop}(x:Wp A (eval value env) (λv h1=>Wp A (assign (.Tuple elts k' eJ) env v) (λζ=>Q .next) E h1) E h)
  (hs:swapsWithSole [.Tuple elts k' eJ] value pos.line env=pure false:=by rfl)(hw:swappedStores [.Tuple elts k' eJ] value env=pure none:=by rfl):Wp A (exec (.Assign [.Tuple elts k' eJ] value pos) env) Q E h:=
 .of λg d kk o Q' E' hQ hE=>Assign_Tuple (x.go g d kk o _ _ (λv h1 k1 hv=>hv.go g d k1 o _ E' (λζ h2 k2 q=>hQ _ _ _ q) hE) hE) hs hw
theorem vh{elts:List Expr}{k' eJ value pos}{names:List Str}{Q:Flow->Heap->Prop}(x:Wp A (eval value env) (λv h1=>Wp A (unpackItems v names.length none) (λitems h2=>Wp A (assignInOrder (names.reverse.map λn=>bindName env n) items.reverse) (λζ=>Q .next) E h2) E h1) E h)
  (hs:swapsWithSole [.Tuple elts k' eJ] value pos.line env=pure false:=by rfl)(hw:swappedStores [.Tuple elts k' eJ] value env=pure (some names):=by rfl):Wp A (exec (.Assign [.Tuple elts k' eJ] value pos) env) Q E h:=
 .of λg d kk o Q' E' hQ hE=>Assign_Tuple_swapped (x.go g d kk o _ _ (λv h1 k1 hv=>hv.go g d k1 o _ E' (λitems h2 k2 hw=>hw.go g d k2 o _ E' (λζ h3 k3 q=>hQ _ _ _ q) hE) hE) hE) hs hw
theorem je{x y:Str}{p q:Pos}{k' eJ value pos}{Q:Flow->Heap->Prop}(k:Wp A (eval value env) (λv h1=>Wp A (unpackItems v 2 none) (λitems h2=>Wp A (assignInOrder [bindName env y,bindName env x] items.reverse) (λζ=>Q .next) E h2) E h1) E h)
  (hs:swapsWithSole [.Tuple [.Name x p,.Name y q] k' eJ] value pos.line env=pure false:=by rfl)(hw:swappedStores [.Tuple [.Name x p,.Name y q] k' eJ] value env=pure (some [x,y]):=by rfl):Wp A (exec (.Assign [.Tuple [.Name x p,.Name y q] k' eJ] value pos) env) Q E h:=
 vh (names:=[x,y]) k hs hw
theorem kJ{a:Addr}{xs:List Value}{n:Nat}{Q:List Value->Heap->Prop}(hh:A.handled=none)(F:Fx ρ g L m l h)(e:Tp h a xs)(hn:n=xs.length)(k:∀g' h',Sub g g'->Fx ρ g' L m l h'->Q xs h'):Wp A (unpackItems (.ref a) n none) Q E h:=
 .of λgg d kk o Q' E' hQ hE=>by
  subst hn
  refine aP e λc e=>?_
  exact unpackItems_tuple (s:=⟨h,gg,d,kk,o⟩) hh (iI e) λh' x=>hQ _ _ _ (by
   obtain⟨g',s,F'⟩:=F.ext (jI x)
   simpa using k g' h' s F')
theorem eK{a:Addr}{xs:List Value}{elts:List Expr}{k':Nat}{pos:Pos}{Q:Unit->Heap->Prop}(hh:A.handled=none)(F:Fx ρ g L m l h)(e:Tp h a xs)(hn:(assignEach elts env).length=xs.length)
  (C5:(assignEach elts env).findIdx? (·.1)=none)(k:∀g' h',Sub g g'->Fx ρ g' L m l h'->Wp A (assignInOrder ((assignEach elts env).map (·.2)) xs) Q E h'):Wp A (assign (.Tuple elts k' pos) env (.ref a)) Q E h:=
 .of λgg d kk o Q' E' hQ hE=>by
  refine aP e λc e=>?_
  exact assign_Tuple_tuple (s:=⟨h,gg,d,kk,o⟩) hh (iI e) (by simpa using hn) C5 λh' x=>by
   obtain⟨g',s,F'⟩:=F.ext (jI x)
   have:=(k g' h' s F').go gg d kk o Q' E' hQ hE
   simpa using this
theorem eM{xs:List Value}{Q:Unit->Heap->Prop}(k:Q () h):Wp A (assignInOrder [] xs) Q E h:=.of λgg d kk o Q' E' hQ hE=>assignInOrder_nil (hQ _ _ _ k)
theorem cL{t:Value->Sem Unit}{ts:List (Value->Sem Unit)}{x:Value}{xs:List Value}{Q:Unit->Heap->Prop}(k:Wp A (t x) (λζ h1=>Wp A (assignInOrder ts xs) Q E h1) E h):Wp A (assignInOrder (t::ts) (x::xs)) Q E h:=
 .of λgg d kk o Q' E' hQ hE=>assignInOrder_cons (k.go gg d kk o _ _ (λζ h1 k1 hv=>hv.go gg d k1 o Q' E' hQ hE) hE)
theorem kK{x:Str}{v:Value}{Q:Unit->Heap->Prop}(k:Wp A (storeName env x v) Q E h):Wp A (bindName env x v) Q E h:=.of λgg d kk o Q' E' hQ hE=>wpAny_bindName (k.go gg d kk o Q' E' hQ hE)
theorem aY{x:Str}{pos:Pos}{v:Value}{Q:Unit->Heap->Prop}(k:Wp A (storeName env x v) Q E h):Wp A (assign (.Name x pos) env v) Q E h:=.of λgg d kk o Q' E' hQ hE=>assign_Name (k.go gg d kk o Q' E' hQ hE)
end
section
variable{A:Around}{E:Value->Heap->Prop}{h h' g:Heap}{L:Addr}{m:Str->Option Value}{ρ:List (Addr×Obj)}{l l' l₁:List Cell}{mg mb:Str->Option Value}
theorem sE{ts:List (Value->Sem Unit)}{u v:Value}{Q:Unit->Heap->Prop}(k:Wp A (assignInOrder ts [v,u]) Q E h):Wp A (assignInOrder ts [u,v].reverse) Q E h:=k
theorem Bb{f:Addr}{aG:FuncData}{body:List Stmt}{ps rest:List Str}{args:List Value}{R:Result->Heap->Prop}{oc:Value}{od:Option Addr}{oZ:Array (Option Value)}(x:Gr ρ g h l)(G:Gd g)(Ho:A.depth<recursionLimit)
  (ho:g.get? f=some ⟨oc,od,.func aG,oZ⟩)(i8:g.CodeRec aG.code aG.qualname)(bK:aG.body= .stmts body)(bB:bindArgs aG ⟨args,[]⟩=pure (ps.zip args))(hlen:ps.length=args.length)(Lc:(ps.all λy=>decide (aG.scope.names.lookup y=some .local))=true)(hn:ps.Nodup)
  (hU:aG.scope.names.all (λy=>y.2 !=.cell)=true)
  (k:∀L g' h',Sub g g'->Fx ρ g' L (mv (ps++rest) (args.map some++rest.map λζ=>none)) l h'->Wp (A.deeper (callEnv aG L f)) (execs body (callEnv aG L f)) (λfl Ld=>R (.ok (.ret (match fl with| .ret v=>v|_=>.none))) Ld)
   (λe Ld=>Wp (A.deeper (callEnv aG L f)) (leaving (callEnv aG L f) e) (λζ h3=>R (.error e) h3) (λe' h3=>R (.error e') h3) Ld) h')
  (Le:aG.scope.isCoroutine=false:=by rfl)(Lg:aG.scope.isGenerator=false:=by rfl)(hk:aG.scope.kind= .function:=by rfl):Cd A (.call (.ref f) ⟨args,[]⟩) R h:=by
 refine .of ?_;intro gg d kk o R' hR
 refine codeAny_call_def (s:=⟨h,gg,d,kk,o⟩) (fd:=aG) (body:=body) (binds:=ps.zip args) Ho (x.sub _ _ ho) rfl (G.up x.sub).lim (i8.keeps x.sub) bK (BindsTo.of_eq bB)
  (λy hy e=>by have:=List.all_eq_true.mp hU y hy;replace this:=e▸this;cases this) (λy hy=>?_) (λh₀ fY D_=>?_) Le Lg hk
 ·have:y.1∈ps:=(List.of_mem_zip hy).1
  exact of_decide_eq_true (List.all_eq_true.mp Lc _ this)
 ·obtain⟨g',hs,F⟩:Nx ρ g h.objs.size (mv (ps++rest) (args.map some++rest.map λζ=>none)) l h₀:=
   Fx.grow g (by refine(kE hlen hn)▸?_;exact fY) (x.own.ups D_) (x.fr.ups D_) (x.sub.trans D_) x.sub.fresh x.bo x.bH ⟨x.own.fresh,x.fr.fresh⟩ x.cS
  exact(k h.objs.size g' h₀ hs F).go gg d _ o _ _ (λfl h1 k1 q=>hR _ _ _ q) (λe h1 k1 q=>Wp.go q gg d k1 o _ _ (λζ h2 k2 z=>hR _ _ _ z) (λe' h2 k2 z=>hR _ _ _ z))
end
section
variable{g:Heap}
theorem Gd.k(G:Gd g)(i:Nat){a:Addr}{o:Obj}(e:(K w.params)[i]? =some (a,o)):g.get? a=some o:=G.C1 (a,o) (List.mem_of_getElem? e)
theorem fw(G:Gd g):g.get? 37=some w5:=G.k 4 rfl
theorem jV(G:Gd g):g.CodeRec (vR 36) (Str.ofString "SmtError.__init__"):=⟨36,_,_,_,rfl,G.k 3 rfl,rfl,rfl⟩
theorem yG(G:Gd g):g.get? 77=some w7:=G.k 11 rfl
theorem yH(G:Gd g):g.CodeRec (vR 76) (Str.ofString "gcd_of"):=⟨76,_,_,_,rfl,G.k 10 rfl,rfl,rfl⟩
theorem Bc(G:Gd g):g.get? 84=some w8:=G.k 13 rfl
theorem Bd(G:Gd g):g.CodeRec (vR 83) (Str.ofString "ratio"):=⟨83,_,_,_,rfl,G.k 12 rfl,rfl,rfl⟩
theorem Hp(G:Gd g):g.get? 91=some w9:=G.k 15 rfl
theorem Hq(G:Gd g):g.CodeRec (vR 90) (Str.ofString "neg"):=⟨90,_,_,_,rfl,G.k 14 rfl,rfl,rfl⟩
theorem Hr(G:Gd g):g.get? 98=some w':=G.k 17 rfl
theorem Hs(G:Gd g):g.CodeRec (vR 97) (Str.ofString "mul"):=⟨97,_,_,_,rfl,G.k 16 rfl,rfl,rfl⟩
theorem Hu(G:Gd g):g.get? 105=some rh:=G.k 19 rfl
theorem Hv(G:Gd g):g.CodeRec (vR 104) (Str.ofString "div"):=⟨104,_,_,_,rfl,G.k 18 rfl,rfl,rfl⟩
theorem sF(G:Gd g):g.get? 112=some ri:=G.k 21 rfl
theorem sG(G:Gd g):g.CodeRec (vR 111) (Str.ofString "is_whole"):=⟨111,_,_,_,rfl,G.k 20 rfl,rfl,rfl⟩
theorem f9(G:Gd g):g.get? 126=some rk:=G.k 23 rfl
theorem o9(G:Gd g):g.CodeRec (vR 125) (Str.ofString "Bank.__init__"):=⟨125,_,_,_,rfl,G.k 22 rfl,rfl,rfl⟩
theorem fG(G:Gd g):g.get? 154=some rl:=G.k 25 rfl
theorem fH(G:Gd g):g.CodeRec (vR 153) (Str.ofString "Bank.is_number_sort"):=⟨153,_,_,_,rfl,G.k 24 rfl,rfl,rfl⟩
theorem h_(G:Gd g):g.get? 168=some rn:=G.k 27 rfl
theorem ib(G:Gd g):g.CodeRec (vR 167) (Str.ofString "Bank.declare_fun"):=⟨167,_,_,_,rfl,G.k 26 rfl,rfl,rfl⟩
theorem jW(G:Gd g):g.get? 189=some rp:=G.k 29 rfl
theorem jX(G:Gd g):g.CodeRec (vR 188) (Str.ofString "Bank.fun_name"):=⟨188,_,_,_,rfl,G.k 28 rfl,rfl,rfl⟩
theorem vm(G:Gd g):g.get? 217=some ru:=G.k 31 rfl
theorem vn(G:Gd g):g.CodeRec (vR 216) (Str.ofString "Bank.op"):=⟨216,_,_,_,rfl,G.k 30 rfl,rfl,rfl⟩
theorem o_(G:Gd g):g.get? 224=some ry:=G.k 33 rfl
theorem pe(G:Gd g):g.CodeRec (vR 223) (Str.ofString "Bank.args"):=⟨223,_,_,_,rfl,G.k 32 rfl,rfl,rfl⟩
theorem pg(G:Gd g):g.get? 231=some rA:=G.k 35 rfl
theorem ph(G:Gd g):g.CodeRec (vR 230) (Str.ofString "Bank.sort"):=⟨230,_,_,_,rfl,G.k 34 rfl,rfl,rfl⟩
theorem pk(G:Gd g):g.get? 238=some rB:=G.k 37 rfl
theorem pw(G:Gd g):g.CodeRec (vR 237) (Str.ofString "Bank.data"):=⟨237,_,_,_,rfl,G.k 36 rfl,rfl,rfl⟩
theorem pD(G:Gd g):g.get? 259=some rE:=G.k 41 rfl
theorem pE(G:Gd g):g.CodeRec (vR 258) (Str.ofString "Bank.make"):=⟨258,_,_,_,rfl,G.k 40 rfl,rfl,rfl⟩
theorem jJ(G:Gd g):g.get? 280=some rF:=G.k 43 rfl
theorem jK(G:Gd g):g.CodeRec (vR 279) (Str.ofString "Bank.want"):=⟨279,_,_,_,rfl,G.k 42 rfl,rfl,rfl⟩
theorem jY(G:Gd g):g.get? 287=some rG:=G.k 45 rfl
theorem jZ(G:Gd g):g.CodeRec (vR 286) (Str.ofString "Bank.want_all"):=⟨286,_,_,_,rfl,G.k 44 rfl,rfl,rfl⟩
theorem iJ(G:Gd g):g.get? 350=some rH:=G.k 49 rfl
theorem iK(G:Gd g):g.CodeRec (vR 349) (Str.ofString "BoolBank.and_of"):=⟨349,_,_,_,rfl,G.k 48 rfl,rfl,rfl⟩
theorem kL(G:Gd g):g.get? 399=some rI:=G.k 51 rfl
theorem kM(G:Gd g):g.CodeRec (vR 398) (Str.ofString "BoolBank.ite"):=⟨398,_,_,_,rfl,G.k 50 rfl,rfl,rfl⟩
theorem kN(G:Gd g):g.get? 406=some rJ:=G.k 53 rfl
theorem kO(G:Gd g):g.CodeRec (vR 405) (Str.ofString "BoolBank.app"):=⟨405,_,_,_,rfl,G.k 52 rfl,rfl,rfl⟩
theorem jf(G:Gd g):g.get? 446=some rK:=G.k 57 rfl
theorem jg(G:Gd g):g.CodeRec (vR 445) (Str.ofString "NumberBank.num"):=⟨445,_,_,_,rfl,G.k 56 rfl,rfl,rfl⟩
theorem d9(G:Gd g):g.get? 453=some rM:=G.k 59 rfl
theorem d_(G:Gd g):g.CodeRec (vR 452) (Str.ofString "NumberBank.want_number"):=⟨452,_,_,_,rfl,G.k 58 rfl,rfl,rfl⟩
theorem iL(G:Gd g):g.get? 460=some rN:=G.k 61 rfl
theorem iM(G:Gd g):g.CodeRec (vR 459) (Str.ofString "NumberBank.plus"):=⟨459,_,_,_,rfl,G.k 60 rfl,rfl,rfl⟩
theorem eZ(G:Gd g):g.get? 467=some rO:=G.k 63 rfl
theorem e8(G:Gd g):g.CodeRec (vR 466) (Str.ofString "NumberBank.times_num"):=⟨466,_,_,_,rfl,G.k 62 rfl,rfl,rfl⟩
theorem cU(G:Gd g):g.get? 481=some rP:=G.k 65 rfl
theorem cV(G:Gd g):g.CodeRec (vR 480) (Str.ofString "NumberBank.over_num"):=⟨480,_,_,_,rfl,G.k 64 rfl,rfl,rfl⟩
theorem fJ(G:Gd g):g.get? 488=some rQ:=G.k 67 rfl
theorem fK(G:Gd g):g.CodeRec (vR 487) (Str.ofString "NumberBank.negative"):=⟨487,_,_,_,rfl,G.k 66 rfl,rfl,rfl⟩
theorem fy(G:Gd g):g.get? 502=some rR:=G.k 69 rfl
theorem fz(G:Gd g):g.CodeRec (vR 501) (Str.ofString "NumberBank.le"):=⟨501,_,_,_,rfl,G.k 68 rfl,rfl,rfl⟩
theorem j1(G:Gd g):g.get? 509=some rS:=G.k 71 rfl
theorem j2(G:Gd g):g.CodeRec (vR 508) (Str.ofString "NumberBank.lt"):=⟨508,_,_,_,rfl,G.k 70 rfl,rfl,rfl⟩
theorem fA(G:Gd g):g.get? 537=some rU:=G.k 77 rfl
theorem j3(G:Gd g):g.CodeRec (vR 536) (Str.ofString "TermBank.__init__"):=⟨536,_,_,_,rfl,G.k 76 rfl,rfl,rfl⟩
theorem ie(G:Gd g):g.get? 654=some rV:=G.k 89 rfl
theorem ig(G:Gd g):g.CodeRec (vR 653) (Str.ofString "NumberTerms.__init__"):=⟨653,_,_,_,rfl,G.k 88 rfl,rfl,rfl⟩
theorem e9(G:Gd g):g.get? 661=some rW:=G.k 91 rfl
theorem e_(G:Gd g):g.CodeRec (vR 660) (Str.ofString "NumberTerms.constant"):=⟨660,_,_,_,rfl,G.k 90 rfl,rfl,rfl⟩
theorem cW(G:Gd g):g.get? 668=some rX:=G.k 93 rfl
theorem cX(G:Gd g):g.CodeRec (vR 667) (Str.ofString "NumberTerms.as_real"):=⟨667,_,_,_,rfl,G.k 92 rfl,rfl,rfl⟩
theorem fb(G:Gd g):g.get? 689=some rY:=G.k 95 rfl
theorem fe(G:Gd g):g.CodeRec (vR 688) (Str.ofString "NumberTerms.negative"):=⟨688,_,_,_,rfl,G.k 94 rfl,rfl,rfl⟩
theorem fM(G:Gd g):g.get? 696=some rZ:=G.k 97 rfl
theorem fQ(G:Gd g):g.CodeRec (vR 695) (Str.ofString "NumberTerms.product"):=⟨695,_,_,_,rfl,G.k 96 rfl,rfl,rfl⟩
theorem fh(G:Gd g):g.get? 703=some r4:=G.k 99 rfl
theorem fi(G:Gd g):g.CodeRec (vR 702) (Str.ofString "NumberTerms.quotient"):=⟨702,_,_,_,rfl,G.k 98 rfl,rfl,rfl⟩
theorem fj(G:Gd g):g.get? 710=some r5:=G.k 101 rfl
theorem fk(G:Gd g):g.CodeRec (vR 709) (Str.ofString "NumberTerms.compared"):=⟨709,_,_,_,rfl,G.k 100 rfl,rfl,rfl⟩
theorem f'(G:Gd g):g.get? 715=some r6:=G.k 103 rfl
theorem f_(G:Gd g):g.CodeRec (vR 714) (Str.ofString "NumberTerms.row_of"):=⟨714,_,_,_,rfl,G.k 102 rfl,rfl,rfl⟩
theorem fU(G:Gd g):g.get? 722=some r7:=G.k 105 rfl
theorem fV(G:Gd g):g.CodeRec (vR 721) (Str.ofString "NumberTerms.size_of"):=⟨721,_,_,_,rfl,G.k 104 rfl,rfl,rfl⟩
theorem kP(G:Gd g):g.get? 743=some r8:=G.k 109 rfl
theorem sH(G:Gd g):g.CodeRec (vR 742) (Str.ofString "_law_draw"):=⟨742,_,_,_,rfl,G.k 108 rfl,rfl,rfl⟩
theorem nK(G:Gd g):g.get? 750=some r9:=G.k 111 rfl
theorem nM(G:Gd g):g.CodeRec (vR 749) (Str.ofString "_law_figure"):=⟨749,_,_,_,rfl,G.k 110 rfl,rfl,rfl⟩
theorem nN(G:Gd g):g.get? 757=some r_:=G.k 113 rfl
theorem nO(G:Gd g):g.CodeRec (vR 756) (Str.ofString "_law_number"):=⟨756,_,_,_,rfl,G.k 112 rfl,rfl,rfl⟩
theorem sI(G:Gd g):g.get? 764=some sb:=G.k 115 rfl
theorem sJ(G:Gd g):g.CodeRec (vR 763) (Str.ofString "_law_term"):=⟨763,_,_,_,rfl,G.k 114 rfl,rfl,rfl⟩
theorem pF(G:Gd g):g.get? 771=some sd:=G.k 117 rfl
theorem pG(G:Gd g):g.CodeRec (vR 770) (Str.ofString "_law_added"):=⟨770,_,_,_,rfl,G.k 116 rfl,rfl,rfl⟩
theorem sL(G:Gd g):g.get? 778=some se:=G.k 119 rfl
theorem sM(G:Gd g):g.CodeRec (vR 777) (Str.ofString "_law_less"):=⟨777,_,_,_,rfl,G.k 118 rfl,rfl,rfl⟩
theorem pH(G:Gd g):g.get? 783=some ny:=G.k 121 rfl
theorem pI(G:Gd g):g.CodeRec (vR 782) (Str.ofString "_law_worth"):=⟨782,_,_,_,rfl,G.k 120 rfl,rfl,rfl⟩
theorem sN(G:Gd g):g.get? 790=some sh:=G.k 123 rfl
theorem sP(G:Gd g):g.CodeRec (vR 789) (Str.ofString "_law_same"):=⟨789,_,_,_,rfl,G.k 122 rfl,rfl,rfl⟩
theorem pJ(G:Gd g):g.get? 797=some si:=G.k 125 rfl
theorem pK(G:Gd g):g.CodeRec (vR 796) (Str.ofString "_law_tried"):=⟨796,_,_,_,rfl,G.k 124 rfl,rfl,rfl⟩
theorem mh(G:Gd g):g.get? 802=some sj:=G.k 127 rfl
theorem mi(G:Gd g):g.CodeRec (vR 801) (Str.ofString "_law_figures"):=⟨801,_,_,_,rfl,G.k 126 rfl,rfl,rfl⟩
theorem gY(G:Gd g):g.get? 807=some sk:=G.k 129 rfl
theorem gZ(G:Gd g):g.CodeRec (vR 806) (Str.ofString "_law_product_right"):=⟨806,_,_,_,rfl,G.k 128 rfl,rfl,rfl⟩
theorem gh(G:Gd g):g.get? 812=some sq:=G.k 131 rfl
theorem gi(G:Gd g):g.CodeRec (vR 811) (Str.ofString "_law_quotient_right"):=⟨811,_,_,_,rfl,G.k 130 rfl,rfl,rfl⟩
theorem nP(G:Gd g):g.get? 819=some su:=G.k 133 rfl
theorem nQ(G:Gd g):g.CodeRec (vR 818) (Str.ofString "_law_stands"):=⟨818,_,_,_,rfl,G.k 132 rfl,rfl,rfl⟩
theorem gj(G:Gd g):g.get? 824=some sv:=G.k 135 rfl
theorem gp(G:Gd g):g.CodeRec (vR 823) (Str.ofString "_law_compared_right"):=⟨823,_,_,_,rfl,G.k 134 rfl,rfl,rfl⟩
theorem jh(G:Gd g):g.get? 831=some sx:=G.k 137 rfl
theorem ji(G:Gd g):g.CodeRec (vR 830) (Str.ofString "_law_size_right"):=⟨830,_,_,_,rfl,G.k 136 rfl,rfl,rfl⟩
theorem Hw(G:Gd g):g.get? 836=some nD:=G.k 139 rfl
theorem Hx(G:Gd g):g.CodeRec (vR 835) (Str.ofString "law"):=⟨835,_,_,_,rfl,G.k 138 rfl,rfl,rfl⟩
theorem sQ(G:Gd g):g.get? 47=some ug:=G.k 6 rfl
theorem cF(G:Gd g):g.get? 67=some o6:=G.k 8 rfl
theorem kQ(G:Gd g):g.get? 638=some nu:=G.k 87 rfl
theorem Ea(G:Gd g):g.get? 70=some w6:=G.k 9 rfl
end
noncomputable abbrev U(x:String):Str:=Str.ofString x
noncomputable abbrev kR:List (Str×Value):=[(U "SortFault",vR 67),(U "SmtError",vR 47),(U "ZERO",vR 70),(U "gcd_of",vR 77),(U "ratio",vR 84),(U "neg",vR 91),(U "mul",vR 98),(U "div",vR 105),(U "is_whole",vR 112),(U "BOOL",vI 0 311),(U "INT",vI 1 313),(U "REAL",vI 2 315),(U "TermBank",vR 638),(U "NumberTerms",vR 732),(U "_law_draw",vR 743),(U "_law_figure",vR 750),(U "_law_number",vR 757),(U "_law_term",vR 764),(U "_law_added",vR 771),(U "_law_less",vR 778),(U "_law_worth",vR 783),(U "_law_same",vR 790),(U "_law_tried",vR 797),(U "_law_figures",vR 802),(U "_law_product_right",vR 807),(U "_law_quotient_right",vR 812),(U "_law_stands",vR 819),(U "_law_compared_right",vR 824),(U "_law_size_right",vR 831),(U "law",vR 836)]
noncomputable abbrev kS:List (Str×Value):=[(U "abs",.builtin "abs"),(U "len",.builtin "len"),(U "sum",.builtin "sum"),(U "int",.type "int"),(U "zip",.type "zip"),(U "list",.type "list"),(U "tuple",.type "tuple"),(U "set",.type "set"),(U "range",.type "range"),(U "isinstance",.builtin "isinstance"),(U "bool",.type "bool"),(U "super",.type "super")]
noncomputable def JV(P:Params):Array DictEntry:=match (u7 P).data with
 | .dict es _=>es
 |_=>#[]
theorem Hy(P:Params):∃n,(u7 P).data= .dict (JV P) n:=⟨_,rfl⟩
theorem Be(P:Params):kR.map (λp=>nsFind (JV P) p.1)=kR.map λp=>some p.2:=by kernel_rfl
theorem vp(P:Params):kS.map (λp=>nsFind (JV P) p.1)=kS.map λζ=>none:=by kernel_rfl
theorem vq:kS.map (λp=>(bootBuiltins p.1,p.1==U "__name__"))=kS.map λp=>(some p.2,false):=by kernel_rfl
theorem a_{α β:Type}{f g:α->β}{l:List α}(e:l.map f=l.map g):∀p∈l,f p=g p:=List.map_inj_left.mp e
section
variable{mg mb:Str->Option Value}{g:Heap}
theorem o8.Eb(G:o8 mg mb g)(x:Str):mg x=nsFind (JV w.params) x:=by
 refine He G.glob λo es ep ho hd ζ hf=>?_
 have:=G.C1 (3,u7 w.params) (List.mem_of_getElem? (i:=0) rfl)
 have e:o=u7 w.params:=Option.some.inj (ho.symm.trans this)
 subst e
 refine aP (Hy w.params) λn hn=>?_
 have:=hd.symm.trans hn
 injection this with h1 h2
 refine(hf x)▸h1.symm▸?_
 rfl
theorem o8.gv(G:o8 mg mb g){x:Str}{v:Value}(h:(x,v)∈kR):mg x=some v:=(G.Eb x).trans (a_ (Be w.params) (x,v) h)
theorem o8.gn(G:o8 mg mb g){x:Str}{v:Value}(h:(x,v)∈kS):mg x=none:=(G.Eb x).trans (a_ (vp w.params) (x,v) h)
theorem o8.bl(G:o8 mg mb g){x:Str}{v:Value}(h:(x,v)∈kS):mb x=some v:=by
 have:=a_ vq (x,v) h
 simp only[Prod.mk.injEq] at this
 exact(G.bv x (λe=>by replace this:=e▸this;have h2:=this.2;simp[U] at h2)).trans this.1
end
noncomputable def ij(aG:FuncData)(ns gs:List Str):Bool:=
 aG.scope.kind==.function&&aG.globals==mainGlobals&&aG.builtins==builtinsNs&&decide ns.Nodup&&(ns.all λy=>aG.scope.names.lookup y==some .local&&!(y==("__debug__":Str)))&&gs.all λy=>aG.scope.names.lookup y==some .globalImplicit&&!(y==("__debug__":Str))
theorem um{aG:FuncData}{ns gs:List Str}{L f:Addr}(e:ij aG ns gs=true):Ev (callEnv aG L f) L ns gs:=by
 unfold ij at e
 simp only[Bool.and_eq_true,List.all_eq_true,beq_iff_eq,decide_eq_true_eq,Bool.not_eq_true'] at e
 obtain⟨⟨⟨⟨⟨h1,h2⟩,h3⟩,h4⟩,h5⟩,h6⟩:=e
 exact⟨h1,rfl,h2,h3,h4,h5,h6⟩
section
variable{A:Around}{E:Value->Heap->Prop}{h g:Heap}{env:Env}{L:Addr}{ns gs:List Str}{vs vb:List (Option Value)}{ρ:List (Addr×Obj)}{l:List Cell}{mg mb:Str->Option Value}
theorem yI{x:Str}{pos:Pos}{v:Value}{Q:Value->Heap->Prop}(O:Ev env L ns gs)(F:Fx ρ g L (mv ns vs) l h)(G:Gd g)(hx:x∈gs)(hv:(x,v)∈kR)(k:Q v h):Wp A (eval (.Name x pos) env) Q E h:=by
 refine nE G λζ ζ G=>?_
 exact yE O F G hx (G.gv hv) k
theorem Hz{x:Str}{pos:Pos}{v:Value}{Q:Value->Heap->Prop}(O:Ev env L ns gs)(F:Fx ρ g L (mv ns vs) l h)(G:Gd g)(hx:x∈gs)(hv:(x,v)∈kS)(k:Q v h):Wp A (eval (.Name x pos) env) Q E h:=by
 refine nE G λζ ζ G=>?_
 exact vf O F G hx (G.gn hv) (G.bl hv) k
theorem Bg{x:Str}{pos:Pos}{v:Value}{Q:Value->Heap->Prop}(O:Ev env L ns gs)(F:Fx ρ g L (mv ns vs) l h)(G:Gd g)(hx:Gs gs x)(hv:Kv kR x v)(k:Q v h):Wp A (eval (.Name x pos) env) Q E h:=yI O F G hx.mem hv.mem k
theorem Ed{x:Str}{pos:Pos}{v:Value}{Q:Value->Heap->Prop}(O:Ev env L ns gs)(F:Fx ρ g L (mv ns vs) l h)(G:Gd g)(hx:Gs gs x)(hv:Kv kS x v)(k:Q v h):Wp A (eval (.Name x pos) env) Q E h:=Hz O F G hx.mem hv.mem k
theorem Bh{test:Expr}{body:List Stmt}{pos:Pos}{Q:Flow->Heap->Prop}(I:Nat->Heap->Prop)
  (turn:∀n h,I n h->Wp A (isTrue test env (eval test env)) (λb h1=>if b then Wp A (execs body env) (λf h2=>match f with
   | .next| .cont=>∃m,m<n/\I m h2
   | .brk=>Q .next h2
   | .ret v=>Q (.ret v) h2) (λζ ζ=>False) h1 else Q .next h1) (λζ ζ=>False) h)(n:Nat)(h0:I n h):Wp A (exec (.While test body [] pos) env) Q E h:=by
 refine .of ?_;intro gg d k o Q' E' hQ hE
 refine wpAny_While (codeAny_whileLoop (λn s=>∃h' k',s=⟨h',gg,d,k',o⟩/\I n h') ?_ n ⟨h,k,rfl,h0⟩)
 rintro n s ⟨h',k',rfl,hI⟩
 refine(turn n h' hI).go gg d k' o _ _ (λb h1 k1 hb=>?_) λe h1 k1 q=>q.elim
 cases b with
 |false=>exact wpAny_execs_nil (hQ _ _ _ hb)
 |true=>
  refine Wp.go hb gg d k1 o _ _ (λf h2 k2 hf=>?_) λe h2 k2 q=>q.elim
  cases f with
  |next=>obtain⟨m,hm,hi⟩:=hf;exact⟨m,hm,h2,k2,rfl,hi⟩
  |cont=>obtain⟨m,hm,hi⟩:=hf;exact⟨m,hm,h2,k2,rfl,hi⟩
  |brk=>exact hQ _ _ _ hf
  |ret v=>exact hQ _ _ _ hf
end
def qX(R:Result->Heap->Prop)(fl:Flow)(h:Heap):Prop:=R (.ok (.ret (match fl with| .ret v=>v|_=>.none))) h
theorem ah{R:Result->Heap->Prop}{v:Value}{h:Heap}(x:R (.ok (.ret v)) h):qX R (.ret v) h:=x
theorem dI{R:Result->Heap->Prop}{h:Heap}(x:R (.ok (.ret .none)) h):qX R .next h:=x
def Lv(A:Around)(env:Env)(R:Result->Heap->Prop)(e:Value)(h:Heap):Prop:=Wp A (leaving env e) (λζ h3=>R (.error e) h3) (λe' h3=>R (.error e') h3) h
section
variable{A:Around}{h g:Heap}{ρ:List (Addr×Obj)}{l:List Cell}{mg mb:Str->Option Value}
theorem dq{f:Addr}{aG:FuncData}{body:List Stmt}{ps rest ns gs:List Str}{vs:List (Option Value)}{args:List Value}{R:Result->Heap->Prop}{oc:Value}{od:Option Addr}{oZ:Array (Option Value)}{r:Nat}(x:Gr ρ g h l)(G:Gd g)(hA:Rm A (r+1))
  (ho:g.get? f=some ⟨oc,od,.func aG,oZ⟩)(i8:g.CodeRec aG.code aG.qualname)(bK:aG.body= .stmts body)(bB:bindArgs aG ⟨args,[]⟩=pure (ps.zip args))(fY:ns=ps++rest)(mj:vs=args.map some++rest.map λζ=>none)(hlen:ps.length=args.length)
  (g_:(ij aG ns gs&&aG.scope.names.all (λy=>y.2 !=.cell)&&!aG.scope.isCoroutine&&!aG.scope.isGenerator)=true)
  (k:∀L g' h' env A1,env=callEnv aG L f->A1=A.deeper env->Rm A1 r->Ev env L ns gs->Sub g g'->Fx ρ g' L (mv ns vs) l h'->Wp A1 (execs body env) (qX R) (Lv A1 env R) h'):Cd A (.call (.ref f) ⟨args,[]⟩) R h:=by
 simp only[Bool.and_eq_true,Bool.not_eq_true'] at g_
 obtain⟨⟨⟨h1,h2⟩,h3⟩,h4⟩:=g_
 have O:=λ(L f:Addr)=>um (L:=L) (f:=f) h1
 have O0:=O 0 0
 refine Bb (rest:=rest) x G hA.room ho i8 bK bB hlen ?_ ?_ h2 (λL g' h' S F=>?_) h3 h4 O0.kind
 ·exact List.all_eq_true.mpr λy hy=>decide_eq_true (O0.lk y (by refine fY.symm▸?_;exact List.mem_append_left _ hy)).1
 ·have:=O0.nd
  replace this:=fY▸this
  exact(List.nodup_append.mp this).1
 ·replace F:=mj.symm▸fY.symm▸F
  exact k L g' h' _ _ rfl rfl hA.deeper (O L f) S F
theorem aw{f:Addr}{aG:FuncData}{body:List Stmt}{ps rest ns gs:List Str}{vs:List (Option Value)}{args:List Value}{R:Result->Heap->Prop}{oc:Value}{od:Option Addr}{oZ:Array (Option Value)}{r:Nat}(x:Gr ρ g h l)(G:Gd g)(hA:Rm A (r+1))
  (ho:g.get? f=some ⟨oc,od,.func aG,oZ⟩)(i8:g.CodeRec aG.code aG.qualname)(bK:aG.body= .stmts body)(bB:bindArgs aG ⟨args,[]⟩=pure (ps.zip args))(fY:ns=ps++rest)(mj:vs=args.map some++rest.map λζ=>none)(hlen:ps.length=args.length)
  (g_:(ij aG ns gs&&aG.scope.names.all (λy=>y.2 !=.cell)&&!aG.scope.isCoroutine&&!aG.scope.isGenerator)=true)
  (k:∀L g' h' env A1,env=callEnv aG L f->A1=A.deeper env->Rm A1 r->Ev env L ns gs->Sub g g'->Fx ρ g' L (mv ns vs) l h'->Wp A1 (execs body env) (qX R) (λζ ζ=>False) h'):Cd A (.call (.ref f) ⟨args,[]⟩) R h:=
 dq x G hA ho i8 bK bB fY mj hlen g_ λL g' h' env A1 e1 e2 hr O S F=>(k L g' h' env A1 e1 e2 hr O S F).mono (λζ ζ q=>q) λζ ζ q=>q.elim
end
theorem Sub.back{a b c:Heap}(y:Sub b c)(x:Sub a b):Sub a c:=x.trans y
noncomputable def C6(n:Nat):Nat:=(List.lookup n [(37,4),(77,11),(84,13),(91,15),(98,17),(105,19),(112,21),(126,23),(154,25),(168,27),(189,29),(217,31),(224,33),(231,35),(238,37),(245,39),(259,41),(280,43),(287,45),(350,49),(399,51),(406,53),(446,57),(453,59),(460,61),(467,63),(481,65),(488,67),(502,69),(509,71),(537,77),(558,79),(614,81),(621,83),(635,85),(654,89),(661,91),(668,93),(689,95),(696,97),(703,99),(710,101),(715,103),(722,105),(743,109),(750,111),(757,113),(764,115),(771,117),(778,119),(783,121),(790,123),(797,125),(802,127),(807,129),(812,131),(819,133),(824,135),(831,137),(836,139)]).getD 0
structure Kn(A:Around)(env:Env)(E:Value->Heap->Prop)(rest:List Stmt)(Q Q':Flow->Heap->Prop):Prop where
 nx:∀h',Wp A (execs rest env) Q E h'->Q' .next h'
 rt:∀v h',Q (.ret v) h'->Q' (.ret v) h'
 br:∀h',Q .brk h'->Q' .brk h'
 co:∀h',Q .cont h'->Q' .cont h'
theorem ab{A:Around}{env:Env}{E:Value->Heap->Prop}{h:Heap}{st rest}{Q:Flow->Heap->Prop}(x:∀Q',Kn A env E rest Q Q'->Wp A (exec st env) Q' E h):Wp A (execs (st::rest) env) Q E h:=
 au (x _ ⟨λζ k=>k,λζ ζ k=>k,λζ k=>k,λζ k=>k⟩)
theorem Kn.go{A:Around}{env:Env}{E:Value->Heap->Prop}{h:Heap}{rest}{Q Q':Flow->Heap->Prop}(K:Kn A env E rest Q Q')(x:Wp A (execs rest env) Q E h):Q' .next h:=K.nx h x
theorem Kn.ret{A:Around}{env:Env}{E:Value->Heap->Prop}{h:Heap}{v:Value}{rest}{Q Q':Flow->Heap->Prop}(K:Kn A env E rest Q Q')(x:Q (.ret v) h):Q' (.ret v) h:=K.rt v h x
theorem b_{A:Around}{E:Value->Heap->Prop}{h:Heap}{env:Env}{pos:Pos}{f:Addr}{ob:Obj}{fd:FuncData}{first:List Value}{e:Expr}{rest:List Expr}{Q:Value->Heap->Prop}(hK:(K w.params)[C6 f]? =some (f,ob))(hd:ob.data= .func fd)
  (x:Wp A (spliced (backTo pos (starEach (e::rest) env))) (λvs h1=>Gd h1/\Wp A (call (.ref f) (first++vs)) Q E h1) E h)
  (he:starEach (e::rest) env=(false,eval e env)::starEach rest env:=by rfl):Wp A (callWith pos (.ref f) first (backTo pos (starEach (e::rest) env)) []) Q E h:=
 D8 hd (x.mono (λvs h1 q=>⟨q.1.k _ hK,q.2⟩) λζ ζ q=>q) he
theorem Gr.done{ρ:List (Addr×Obj)}{l l':List Cell}{g g' h h':Heap}{L:Addr}{m:Str->Option Value}(x:Gr ρ g h l)(F:Fx ρ g' L m l' h')(s:Sub g g'):Step ρ l h l' h':=x.leave s F
section
variable{A:Around}{E:Value->Heap->Prop}{h:Heap}
theorem Bj{a:Value}{op OH:CmpOp}{ops:List CmpOp}{r r':Sem Value}{rs:List (Sem Value)}{pos:Pos}{Q:Bool->Heap->Prop}
  (x:Wp A r (λb h1=>Wp A (compareOp op a b) (λc h2=>Wp A (truthy c) (λt h3=>if t then Wp A (testChain pos b (OH::ops) (r'::rs)) Q E h3 else Q false h3) E h2) E h1) E h):Wp A (testChain pos a (op::OH::ops) (r::r'::rs)) Q E h:=
 .of λg d k o Q' E' hQ hE=>test_link (x.go g d k o _ _ (λb h1 k1 hv=>hv.go g d k1 o _ E' (λc h2 k2 hw=>hw.go g d k2 o _ E' (λt h3 k3 hz=>by
  cases t
  ·exact hQ _ _ _ hz
  ·exact Wp.go hz g d k3 o Q' E' hQ hE) hE) hE) hE)
theorem Bm{a:Value}{op:CmpOp}{r:Sem Value}{pos:Pos}{Q:Bool->Heap->Prop}
  (x:Wp A r (λb h1=>Wp A (compareOp op a b) (λc h2=>Wp A (truthy c) Q E h2) E h1) E h):Wp A (testChain pos a [op] [r]) Q E h:=
 .of λg d k o Q' E' hQ hE=>test_last (x.go g d k o _ _ (λb h1 k1 hv=>hv.go g d k1 o _ E' (λc h2 k2 hw=>hw.go g d k2 o _ E' (λt h3 k3 hz=>hQ _ _ _ hz) hE) hE) hE)
theorem yJ{a:Value}{op:CmpOp}{r:Sem Value}{pos:Pos}{env:Env}{Q:Bool->Heap->Prop}
  (x:Wp A r (λb h1=>Wp A (compareOp op a b) (λc h2=>Wp A (truthy c) Q E h2) E h1) E h):Wp A (testChain pos a [op] (r::evalEach [] env)) Q E h:=Bm x
end
theorem eN{c:Prop}[Decidable c]{p q:Prop}(h:c)(x:p):if c then p else q:=by refine(if_pos h).symm▸?_;exact x
theorem bL{c:Prop}[Decidable c]{p q:Prop}(h:¬c)(x:q):if c then p else q:=by refine(if_neg h).symm▸?_;exact x
theorem uo{p q:Prop}(x:q):if false=true then p else q:=by simpa using x
theorem C7{p q:Prop}(x:p):if true=true then p else q:=by simpa using x
theorem Gd.lf{g h:Heap}(G:Gd g)(s:Sub g h):Gd h:=G.up s
theorem Tp.lf{g h:Heap}{a:Addr}{xs:List Value}(x:Tp g a xs)(s:Sub g h):Tp h a xs:=x.up s.aj
theorem Sub.HA{ρ:List (Addr×Obj)}{g h a:Heap}{L:Addr}{m:Str->Option Value}{l:List Cell}(F:Fx ρ g L m l h)(x:Sub a g):Sub a h:=x.trans F.keep
inductive cY(P:Params):List (Str×Value)->List DictEntry->Prop
 |nil:cY P [] []
 |cons {n v al es} (t:Tok):cY P al es->cY P ((n,v)::al) (⟨PyData.keyHash P n,.str n t,v⟩::es)
def So(P:Params)(al:List (Str×Value)):Obj->Prop:=λo=>o.cls= .type "dict"/\o.dict=none/\o.slots=#[]/\∃es n,o.data= .dict es.toArray n/\cY P al es
theorem So.nt{P:Params}{al:List (Str×Value)}:∀o,So P al o->isTup o=false:=λo h=>by
 obtain⟨ζ,ζ,ζ,es,n,h1,ζ⟩:=h
 unfold isTup
 refine h1.symm▸?_
 cases o.cls <;> rfl
theorem So.is{P:Params}{al:List (Str×Value)}{o:Obj}(x:So P al o):∃es n,o=dictOf es n/\cY P al es:=by
 obtain⟨h1,h2,h3,es,n,h4,h5⟩:=x
 obtain⟨c,d,dt,sl⟩:=o
 dsimp only at h1 h2 h3 h4
 subst h1 h2 h3 h4
 exact⟨es,n,rfl,h5⟩
theorem So.of{P:Params}{al:List (Str×Value)}{es:List DictEntry}{n:Nat}(x:cY P al es):So P al (dictOf es n):=⟨rfl,rfl,rfl,es,n,rfl,x⟩
theorem mG(a b:Str)(t:Tok):(Value.str a t).isStr b=(a==b):=rfl
theorem cY.noRef{P:Params}{al:List (Str×Value)}{es:List DictEntry}(x:cY P al es):es.any (·.refKey)=false:=by
 induction x with
 |nil=>rfl
 |cons t _ ih=>rw[List.any_cons,ih];rfl
theorem cY.find{P:Params}{al:List (Str×Value)}{es:List DictEntry}(x:cY P al es)(y:Str):(es.find? (·.key.isStr y)).map (·.val)=al.lookup y:=by
 induction x with
 |nil=>rfl
 |@cons n v al es t _ ih=>
  refine List.find?_cons.symm▸?_
  rw[List.lookup_cons]
  by_cases e:n=y
  ·subst e;simp[mG]
  ·have h1:(n==y)=false:=beq_eq_false_iff_ne.mpr e
   have h2:(y==n)=false:=beq_eq_false_iff_ne.mpr (Ne.symm e)
   simp only[mG,h1,h2]
   exact ih
theorem cY.get{P:Params}{al:List (Str×Value)}{es:List DictEntry}(x:cY P al es)(y:Str):getL y es=some (al.lookup y):=by
 have h1:=x.find y
 unfold getL
 cases q:es.find? (·.key.isStr y) with
 |some e=>rw[q] at h1;simp only[<-h1];rfl
 |none=>rw[q] at h1;simp only[x.noRef,<-h1];rfl
noncomputable def bW(y:Str)(v:Value):List (Str×Value)->List (Str×Value)
 |[]=>[(y,v)]
 |(n,u)::r=>if n==y then(n,v)::r else(n,u)::bW y v r
theorem cY.put{P:Params}{al:List (Str×Value)}{es:List DictEntry}(x:cY P al es)(y:Str)(v:Value)(t:Tok):cY P (bW y v al) (putL y (PyData.keyHash P y) (.str y t) v es):=by
 induction x with
 |nil=>exact .cons t .nil
 |@cons n u al es t' x ih=>
  by_cases e:n=y
  ·have e2:(Value.str n t').isStr y=true:=beq_iff_eq.mpr e
   have h1:bW y v ((n,u)::al)=(n,v)::al:=if_pos (beq_iff_eq.mpr e)
   have h2:putL y (PyData.keyHash P y) (.str y t) v (⟨PyData.keyHash P n,.str n t',u⟩::es)=⟨PyData.keyHash P n,.str n t',v⟩::es:=if_pos e2
   refine h1.symm▸h2.symm▸?_;exact .cons t' x
  ·have e2:¬(Value.str n t').isStr y=true:=λq=>e (beq_iff_eq.mp q)
   have h1:bW y v ((n,u)::al)=(n,u)::bW y v al:=if_neg (λq=>e (beq_iff_eq.mp q))
   have h2:putL y (PyData.keyHash P y) (.str y t) v (⟨PyData.keyHash P n,.str n t',u⟩::es)=⟨PyData.keyHash P n,.str n t',u⟩::putL y (PyData.keyHash P y) (.str y t) v es:=if_neg e2
   refine h1.symm▸h2.symm▸?_;exact .cons t' ih
theorem yK(y:Str)(v:Value)(al:List (Str×Value)):(bW y v al).length<=al.length+1:=by
 induction al with
 |nil=>exact Nat.le_refl _
 |cons p r ih=>
  show(if p.1==y then(p.1,v)::r else p::bW y v r).length<=_
  by_cases h:(p.1==y)=true
  ·refine(if_pos h).symm▸?_;exact Nat.le_succ _
  ·refine(if_neg h).symm▸?_;exact Nat.succ_le_succ ih
theorem cY.len{P:Params}{al:List (Str×Value)}{es:List DictEntry}(x:cY P al es):es.length=al.length:=by
 induction x with
 |nil=>rfl
 |cons t _ ih=>rw[List.length_cons,List.length_cons,ih]
def Io(C dx:Addr):Obj->Prop:=λo=>o.cls= .ref C/\notCls o=true/\o.dict=some dx
def In(P:Params)(h:Heap)(x C:Addr)(al:List (Str×Value)):Prop:=∃dx ox od,h.get? x=some ox/\Io C dx ox/\h.get? dx=some od/\So P al od
theorem In.up{P:Params}{g h:Heap}{x C:Addr}{al:List (Str×Value)}(I:In P g x C al)(s:Sub g h):In P h x C al:=by
 refine He I λdx ox od a b c d=>?_
 clear I
 exact⟨dx,ox,od,s _ _ a,b,s _ _ c,d⟩
theorem kT{β:Type}{l:List (Addr×β)}{a:Addr}{b:β}(e:l.lookup a=some b):(a,b)∈l:=by
 induction l with
 |nil=>cases e
 |cons p l ih=>
  have e:(match a==p.1 with|true=>some p.2|false=>l.lookup a)=some b:=e
  by_cases q:a=p.1
  ·replace e:=(beq_iff_eq.mpr q)▸e
   refine q.symm▸(Option.some.inj e)▸?_;exact .head _
  ·replace e:=(beq_eq_false_iff_ne.mpr q)▸e
   exact .tail _ (ih e)
theorem Gd.nR{g:Heap}(G:Gd g):(K w.params).In g:=λa o e=>G.C1 (a,o) (kT e)
section
variable{A:Around}{E:Value->Heap->Prop}{h:Heap}{x C:Addr}{al:List (Str×Value)}{name:Str}
theorem In.at{P:Params}(I:In P h x C al):∃ox es n,InstAt h x ox C (some (dictOf es n))/\cY P al es:=by
 obtain⟨dx,ox,od,h1,⟨h2,h3,h4⟩,h5,h6⟩:=I
 refine dm h6.is λes n ak h7=>?_
 obtain rfl:=ak
 exact⟨ox,es,n,⟨h1,h2,h3,by refine h4.symm▸?_;exact h5⟩,h7⟩
theorem C8{expr:Bool}{v:Value}{Q:Value->Heap->Prop}(G:Gd h)(I:In w.params h x C al)(hp:plainGet (K w.params) C name=true)(hd:hasDictIn (K w.params) C=true)(ha:findIn (K w.params) (.ref C) name=some none)(hl:al.lookup name=some v)(hv:handedIn v=true)(k:Q v h):Wp A (getAttr (.ref x) name expr) Q E h:=
 .of λg d kk o Q' E' hQ hE=>by
  refine jH I.at λox es n i a=>?_
  exact get_value (s:=⟨h,g,d,kk,o⟩) G.nR i (plainGet_of hp).1 (findObj_own hd ha rfl (by rw[lookIn_dict,a.get,hl])) hv (hQ _ _ _ k)
theorem yL{pl:Sem Bool}{f:Addr}{Q:Value×List Value->Heap->Prop}(G:Gd h)(I:In w.params h x C al)(hp:plainGet (K w.params) C name=true)(ha:findIn (K w.params) (.ref C) name=some (some (.ref f)))(ht:isFn (K w.params) (.ref f)=true)(hl:al.lookup name=none)(k:Q (.ref f,[.ref x]) h):Wp A (getMethod (.ref x) name pl) Q E h:=
 .of λg d kk o Q' E' hQ hE=>by
  refine jH I.at λox es n i a=>?_
  exact method_fn (s:=⟨h,g,d,kk,o⟩) G.nR i (plainGet_of hp).1 (plainGet_of hp).2 ha (beq_iff_eq.mp ht) (by show(lookIn name (dictOf es n)).map _=_;refine(lookIn_dict ..).symm▸(a.get ..).symm▸hl.symm▸?_;rfl) (hQ _ _ _ k)
end
noncomputable abbrev jj:List Str:=[U "sort_names",U "sort_widths",U "fun_names",U "fun_args",U "fun_results",U "fresh_count",U "term_ops",U "term_args",U "term_sorts",U "term_datas",U "numbers",U "true_number",U "false_number",U "bv_numbers"]
noncomputable abbrev ei:List (Str×Addr):=[(U "is_number_sort",154),(U "declare_fun",168),(U "fun_name",189),(U "op",217),(U "args",224),(U "sort",231),(U "data",238),(U "make",259),(U "want",280),(U "want_all",287),(U "and_of",350),(U "ite",399),(U "app",406),(U "num",446),(U "want_number",453),(U "plus",460),(U "times_num",467),(U "over_num",481),(U "negative",488),(U "le",502),(U "lt",509)]
noncomputable abbrev kU:List (Str×Addr):=[(U "constant",661),(U "as_real",668),(U "negative",689),(U "product",696),(U "quotient",703),(U "compared",710),(U "row_of",715),(U "size_of",722)]
theorem mH(P:Params):jj.map (findIn (K P) (.ref 638))=jj.map λζ=>some none:=by kernel_rfl
theorem vr(P:Params):ei.map (λp=>(findIn (K P) (.ref 638) p.1,isFn (K P) (.ref p.2)))=ei.map λp=>(some (some (.ref p.2)),true):=by kernel_rfl
theorem vw(P:Params):kU.map (λp=>(findIn (K P) (.ref 732) p.1,isFn (K P) (.ref p.2)))=kU.map λp=>(some (some (.ref p.2)),true):=by kernel_rfl
theorem Ee(P:Params):[638,732].map (λC=>(plainGet (K P) C "",hasDictIn (K P) C,findIn (K P) (.ref C) "__setattr__",plainOver (K P) C))=[638,732].map λζ=>(true,true,some (some (.builtin "object.__setattr__")),true):=by kernel_rfl
theorem mI(P:Params):findIn (K P) (.ref 732) "bank"=some none:=by kernel_rfl
section
variable{A:Around}{E:Value->Heap->Prop}{h g:Heap}{x:Addr}{al:List (Str×Value)}{name:Str}{ρ:List (Addr×Obj)}{L:Addr}{m:Str->Option Value}{l₀ l₁:List Cell}
theorem kW{P:Params}{C:Addr}(hC:C∈[638,732]):plainGet (K P) C name=true/\hasDictIn (K P) C=true/\findIn (K P) (.ref C) "__setattr__"=some (some (.builtin "object.__setattr__"))/\plainOver (K P) C=true:=by
 have:=a_ (Ee P) C hC
 simp only[Prod.mk.injEq] at this
 exact this
theorem Ef{expr:Bool}{v:Value}{Q:Value->Heap->Prop}(G:Gd h)(I:In w.params h x 638 al)(hn:name∈jj)(hl:al.lookup name=some v)(hv:handedIn v=true)(k:Q v h):Wp A (getAttr (.ref x) name expr) Q E h:=
 let q:=kW (P:=w.params) (name:=name) (C:=638) (by decide);C8 G I q.1 q.2.1 (a_ (mH w.params) _ hn) hl hv k
theorem yM{expr:Bool}{v:Value}{Q:Value->Heap->Prop}(G:Gd h)(I:In w.params h x 732 al)(hl:al.lookup (U "bank")=some v)(hv:handedIn v=true)(k:Q v h):Wp A (getAttr (.ref x) "bank" expr) Q E h:=
 let q:=kW (P:=w.params) (name:="bank") (C:=732) (by decide);C8 G I q.1 q.2.1 (mI w.params) hl hv k
theorem Eg{pl:Sem Bool}{f:Addr}{Q:Value×List Value->Heap->Prop}(G:Gd h)(I:In w.params h x 638 al)(hn:(name,f)∈ei)(hl:al.lookup name=none)(k:Q (.ref f,[.ref x]) h):Wp A (getMethod (.ref x) name pl) Q E h:=by
 have q:=kW (P:=w.params) (name:=name) (C:=638) (by decide)
 have r:=a_ (vr w.params) _ hn
 simp only[Prod.mk.injEq] at r
 exact yL G I q.1 r.1 r.2 hl k
theorem yN{pl:Sem Bool}{f:Addr}{Q:Value×List Value->Heap->Prop}(G:Gd h)(I:In w.params h x 732 al)(hn:(name,f)∈kU)(hl:al.lookup name=none)(k:Q (.ref f,[.ref x]) h):Wp A (getMethod (.ref x) name pl) Q E h:=by
 have q:=kW (P:=w.params) (name:=name) (C:=732) (by decide)
 have r:=a_ (vw w.params) _ hn
 simp only[Prod.mk.injEq] at r
 exact yL G I q.1 r.1 r.2 hl k
theorem Bn{expr:Bool}{v:Value}{Q:Value->Heap->Prop}(G:Gd h)(I:In w.params h x 638 al)(hn:Gs jj name)(hl:al.lookup name=some v)(hv:handedIn v=true)(k:Q v h):Wp A (getAttr (.ref x) name expr) Q E h:=Ef G I hn.mem hl hv k
theorem Bo{pl:Sem Bool}{f:Addr}{Q:Value×List Value->Heap->Prop}(G:Gd h)(I:In w.params h x 732 al)(hn:Kv kU name f)(hl:al.lookup name=none)(k:Q (.ref f,[.ref x]) h):Wp A (getMethod (.ref x) name pl) Q E h:=yN G I hn.mem hl k
theorem mJ{C dx:Addr}{ox:Obj}{v:Value}{Q:Unit->Heap->Prop}(G:Gd h)(F:Fx ρ g L m (l₀++(dx,So w.params al)::l₁) h)(JW:h.get? x=some ox)(OI:Io C dx ox)(hC:C∈[638,732])(ha:findIn (K w.params) (.ref C) name=some none)(hz:al.length<=900)
  (k:∀h',Fx ρ g L m (l₀++(dx,So w.params (bW name v al))::l₁) h'->Q () h'):Wp A (setAttr (.ref x) name v) Q E h:=
 .of λgg d kk o Q' E' hQ hE=>by
  refine JQ (kW (P:=w.params) (name:=name) hC) λp1 p2 p3 p4=>?_
  obtain⟨od,D,pL⟩:=F.get (a:=dx) (p:=So w.params al) (List.mem_append_right _ List.mem_cons_self)
  refine dm pL.is λes n ak a=>?_
  obtain rfl:=ak
  refine u9 OI λj4 hn hd=>?_
  clear OI
  have I:InstAt h x ox C (some (dictOf es n)):=⟨JW,j4,hn,by refine hd.symm▸?_;exact D⟩
  refine set_plain (s:=⟨h,gg,d,kk,o⟩) G.nR I p3 ?_
  refine osa_open G.nR I p4 (r:=none) (by unfold takerIn;refine ha.symm▸?_;rfl) λb=>?_
  refine aU (any_some p2) λcd hc mn=>?_
  obtain⟨oc,Vn,Vo,oZ⟩:=ox
  dsimp only at j4 hd
  subst j4 hd
  refine wpAny_bind (wpAny_pure (wpAny_bind (wpAny_bind (wpAny_loadPart JW (wpAny_bind ((looks_clsIn G.nR hc).here ?_))))))
  refine mn.symm▸?_
  refine wpAny_pure (a:=some dx) (wpAny_bind (wpAny_pure (wpAny_bind ?_)))
  unfold nsSet
  refine wpAny_bind (wpAny_bind (wpAny_askSetting (wpAny_pure (wpAny_bind (wpAny_mkText (wpAny_bind (wpAny_loadPart D ?_)))))))
  try dsimp only
  have c:(!es.toArray.any (·.key.isStr name)&&es.toArray.any (·.refKey))=false:=by
   refine Array.any_toList▸Array.any_toList▸a.noRef.symm▸(Bool.and_false ..).symm▸?_
   rfl
  refine(aRefKeyMayBeTheName_at ..).symm▸c.symm▸?_
  have e:Obj.putName name (PyData.keyHash w.params name) (.str name (kk+1)) v (dictOf es n)=dictOf (putL name (PyData.keyHash w.params name) (.str name (kk+1)) v es) (putN name es n):=putName_dict ..
  have D':=Heap.get?_update_self (Obj.putName name (PyData.keyHash w.params name) (.str name (kk+1)) v) D (by refine e.symm▸?_;rfl)
  have A':=a.put name v (kk+1)
  have hl:(putL name (PyData.keyHash w.params name) (.str name (kk+1)) v es).length<=1000:=by
   refine A'.len.symm▸?_
   exact Nat.le_trans (yK _ _ _) (by lia)
  refine wpAny_updatePart D ?_
  refine wpAny_bind (wpAny_lookBehind D' (by refine e.symm▸?_;exact pastItsLine_dict (by refine List.size_toArray.symm▸sizeLine_eq.symm▸?_;lia)) ?_)
  refine wpAny_pure (hQ _ _ _ (k _ ?_))
  exact F.turn ⟨by simp[Heap.update],λb q=>Heap.get?_update_other h _ (Ne.symm q)⟩ (D'.trans (by rw[e])) (So.of A') So.nt
end
noncomputable abbrev Row:=Str×List Int×Int×(Int ⊕ Int×Int)
noncomputable def aD(h:Heap)(v:Value):Int ⊕ Int×Int->Prop
 | .inl i=>∃t,v= .int i t
 | .inr (n,d)=>∃a t u,v= .ref a/\Tp h a [.int n t,.int d u]
def bQ(h:Heap)(v:Value)(is:List Int):Prop:=∃a vs,v= .ref a/\Tp h a vs/\IntsAre vs is
def cG(h:Heap)(r:Row)(a:Addr):Prop:=∃t va u vd,Tp h a [.str r.1 t,va,.int r.2.2.1 u,vd]/\bQ h va r.2.1/\aD h vd r.2.2.2
theorem yO{vs:List Value}{is js:List Int}(x:IntsAre vs is)(y:IntsAre vs js):is=js:=by
 induction x generalizing js with
 |nil=>cases y;rfl
 |cons n t _ ih=>cases y with|cons m u y=>rw[ih y]
theorem Tp.inj{h:Heap}{a:Addr}{xs ys:List Value}(x:Tp h a xs)(y:Tp h a ys):xs=ys:=by
 refine aP x λc e=>?_
 clear x
 refine aP y λd f=>?_
 clear y
 replace f:=e▸f
 have:=Option.some.inj f
 injection this with _ _ h3 _
 injection h3 with h4 _
 simpa using congrArg Array.toList h4
theorem aD.inj{h:Heap}{v:Value}{x y:Int ⊕ Int×Int}(a:aD h v x)(b:aD h v y):x=y:=by
 cases x with
 |inl i=>
  refine aP a λt ak=>?_
  clear a
  obtain rfl:=ak
  cases y with
  |inl j=>obtain⟨u,e⟩:=b;cases e;rfl
  |inr q=>obtain⟨c,t',u',e,ζ⟩:=b;cases e
 |inr p=>
  refine jH a λc t u ak hp=>?_
  clear a
  obtain rfl:=ak
  cases y with
  |inl j=>obtain⟨u,e⟩:=b;cases e
  |inr q=>
   refine jH b λc' t' u' e hq=>?_
   clear b
   cases e
   have:=Tp.inj hp hq
   simp only[List.cons.injEq,Value.int.injEq] at this
   obtain⟨⟨e1,ζ⟩,⟨e2,ζ⟩,ζ⟩:=this
   congr 1
   exact Prod.ext e1 e2
theorem bQ.inj{h:Heap}{v:Value}{x y:List Int}(a:bQ h v x)(b:bQ h v y):x=y:=by
 refine fv a λc vs ak h1 h2=>?_
 clear a
 obtain rfl:=ak
 refine fv b λc' vb e h3 h4=>?_
 clear b
 cases e
 have:=Tp.inj h1 h3
 subst this
 exact yO h2 h4
theorem cG.inj{h:Heap}{a:Addr}{x y:Row}(p:cG h x a)(q:cG h y a):x=y:=by
 refine JT p λt va u vd h1 h2 h3=>?_
 clear p
 refine JT q λt' Rn u' Ro k1 k2 k3=>?_
 clear q
 have:=Tp.inj h1 k1
 simp only[List.cons.injEq,Value.str.injEq,Value.int.injEq] at this
 obtain⟨⟨e1,ζ⟩,rfl,⟨e2,ζ⟩,rfl,ζ⟩:=this
 exact Prod.ext e1 (Prod.ext (h2.inj k2) (Prod.ext e2 (h3.inj k3)))
theorem aD.up{g h:Heap}{v:Value}{x:Int ⊕ Int×Int}(a:aD g v x)(s:cy g h):aD h v x:=by
 cases x with
 |inl i=>exact a
 |inr p=>obtain⟨c,t,u,rfl,hp⟩:=a;exact⟨c,t,u,rfl,hp.up s⟩
theorem bQ.up{g h:Heap}{v:Value}{x:List Int}(a:bQ g v x)(s:cy g h):bQ h v x:=by
 refine fv a λc vs ak h1 h2=>?_
 clear a
 obtain rfl:=ak
 exact⟨c,vs,rfl,h1.up s,h2⟩
theorem cG.up{g h:Heap}{r:Row}{a:Addr}(p:cG g r a)(s:cy g h):cG h r a:=by
 refine JT p λt va u vd h1 h2 h3=>?_
 clear p
 exact⟨t,va,u,vd,h1.up s,h2.up s,h3.up s⟩
def Ht(h:Heap)(u:Nat)(v:Value)(hv:Int)(n:Nat):Prop:=∀(A:Around) (E:Value->Shared->Prop) (g:Array GenState) (d:Drawn) (k:Nat) (o:OsState) (Q:Int->Shared->Prop),A.units+u<cLine->Q hv ⟨h,g,d,k+n,o⟩->wpAny (model PW w) A (pyHash v) Q E ⟨h,g,d,k,o⟩
inductive Gp(h:Heap)(u:Nat):List Value->List Int->Nat->Prop
 |nil:Gp h u [] [] 0
 |cons {v vs hv mj n m}:Ht h u v hv n->Gp h u vs mj m->Gp h u (v::vs) (hv::mj) (n+m)
theorem kX(h:Heap)(u:Nat)(i:Int)(t:Tok):Ht h u (.int i t) (hashInt i) 1:=λA E g d k o Q hu q=>wpAny_pyHash_int q
theorem Eh(h:Heap)(u:Nat)(x:Str)(t:Tok):Ht h u (.str x t) (PyData.keyHash w.params x) 1:=λA E g d k o Q hu q=>wpAny_pyHash_str q
theorem yP{h:Heap}{u:Nat}{vs:List Value}{mj:List Int}{n:Nat}(x:Gp h u vs mj n):∀(A:Around) (E:Value->Shared->Prop) (g:Array GenState) (d:Drawn) (k:Nat) (o:OsState) (b:Array Int) (Q:Array Int->Shared->Prop),A.units+u<cLine->
  (∀b',b'.toList=b.toList++mj->Q b' ⟨h,g,d,k+n,o⟩)->wpAny (model PW w) A (forIn vs b λx r=>do let h <-pyHash x;pure PUnit.unit;pure (ForInStep.yield (r.push h))) Q E ⟨h,g,d,k,o⟩:=by
 induction x with
 |nil=>intro A E g d k o b Q hu q;exact wpAny_pure (q b (by simp))
 |@cons v vs hv mj n m hx _ ih=>
  intro A E g d k o b Q hu q
  rw[List.forIn_cons]
  refine wpAny_bind (wpAny_bind (hx A E g d k o _ hu (wpAny_bind (wpAny_pure (wpAny_pure ?_)))))
  refine ih A E g d (k+n) o _ Q hu λb' hb=>?_
  have:=q b' (by refine hb.symm▸?_;simp)
  refine(Nat.add_assoc ..).symm▸?_;exact this
theorem kY{h:Heap}{u:Nat}{a:Addr}{vs:List Value}{mj:List Int}{n:Nat}(hT:Tp h a vs)(x:Gp h u vs mj n):Ht h (u+1) (.ref a) (reduceHash (Builtin.Tuple.tupleHashOf mj)) (n+1):=by
 intro A E g d k o Q hu q
 refine aP hT λc e=>?_
 clear hT
 refine pyHash_slot (s:=⟨h,g,d,k,o⟩) (T:="tuple") ⟨_,e,rfl⟩ PySem.F.slot_tuple_hash PySem.F.entry_tuple_hash (PySem.F.args_tuple_hash_1 _) (beq_builtin_none _) (.inr (by lia)) ?_
 show wpAny _ _ (Builtin.Tuple.tupleItemsOf (.ref a)>>=_) _ _ _
 refine wpAny_bind (wpAny_tupleItemsOf e rfl ?_)
 refine wpAny_bind ?_
 rw[<-Array.forIn_toList]
 refine yP x A.in1 _ g d k o #[] _ (by simp only[Around.in1_units];lia) λb hb=>?_
 show wpAny _ _ (retInt (Builtin.Tuple.tupleHashOf b.toList)) _ _ _
 refine hb.symm▸?_
 exact wpAny_bind (wpAny_mkInt (wpAny_pure ⟨_,_,rfl,q⟩))
theorem yQ(h:Heap)(u:Nat){vs:List Value}{is:List Int}(x:IntsAre vs is):Gp h u vs (is.map hashInt) is.length:=by
 induction x with
 |nil=>exact .nil
 |@cons i t vs is _ ih=>rw[List.length_cons,Nat.add_comm];exact .cons (kX h u i t) ih
noncomputable def uq:Int ⊕ Int×Int->Int
 | .inl i=>hashInt i
 | .inr (n,d)=>reduceHash (Builtin.Tuple.tupleHashOf [hashInt n,hashInt d])
noncomputable def pM:Int ⊕ Int×Int->Nat
 | .inl _=>1
 | .inr _=>3
theorem Ei{h:Heap}{u:Nat}{v:Value}{x:Int ⊕ Int×Int}(a:aD h v x):Ht h (u+1) v (uq x) (pM x):=by
 cases x with
 |inl i=>obtain⟨t,rfl⟩:=a;exact kX _ _ _ _
 |inr p=>obtain⟨c,t,t',rfl,hp⟩:=a;exact kY hp (.cons (kX _ _ _ _) (.cons (kX _ _ _ _) .nil))
noncomputable def ur(P:Params)(r:Row):Int:=reduceHash (Builtin.Tuple.tupleHashOf [PyData.keyHash P r.1,reduceHash (Builtin.Tuple.tupleHashOf (r.2.1.map hashInt)),hashInt r.2.2.1,uq r.2.2.2])
noncomputable def pN(r:Row):Nat:=1+(r.2.1.length+1+(1+(pM r.2.2.2+0)))+1
theorem Ej{h:Heap}{r:Row}{a:Addr}(x:cG h r a):Ht h 2 (.ref a) (ur w.params r) (pN r):=by
 obtain⟨t,va,u,vd,h1,⟨b,vs,rfl,h2,h3⟩,h4⟩:=x
 exact kY h1 (.cons (Eh _ _ _ _) (.cons (kY h2 (yQ _ _ h3)) (.cons (kX _ _ _ _) (.cons (Ei h4) .nil))))
noncomputable def cf:Int ⊕ Int×Int->PyData
 | .inl i=>.int i
 | .inr (n,d)=>.tuple [.int n,.int d]
noncomputable def df(r:Row):PyData:=.tuple [.str r.1,.tuple (r.2.1.map .int),.int r.2.2.1,cf r.2.2.2]
theorem kZ(h:Heap){vs:List Value}{is:List Int}(x:IntsAre vs is):ReadsAll h vs (is.map .int) []:=by
 induction x with
 |nil=>exact .nil
 |@cons i t vs is _ ih=>exact .cons (as:=[]) (bs:=[]) (.int i t) ih
theorem gK{h:Heap}{a:Addr}{vs:List Value}{ds:List PyData}(x:Tp h a vs)(y:ReadsAll h vs ds []):Reads h (.ref a) (.tuple ds) []:=by
 refine aP x λc e=>?_
 clear x
 exact .tuple e rfl rfl (by simpa using y)
theorem gL{h:Heap}{v:Value}{x:Int ⊕ Int×Int}(a:aD h v x):Reads h v (cf x) []:=by
 cases x with
 |inl i=>obtain⟨t,rfl⟩:=a;exact .int i t
 |inr p=>obtain⟨c,t,t',rfl,hp⟩:=a;exact gK hp (.cons (as:=[]) (bs:=[]) (.int _ _) (.cons (as:=[]) (bs:=[]) (.int _ _) .nil))
theorem mK{h:Heap}{r:Row}{a:Addr}(x:cG h r a):Reads h (.ref a) (df r) []:=by
 obtain⟨t,va,u,vd,h1,⟨b,vs,rfl,h2,h3⟩,h4⟩:=x
 exact gK h1 (.cons (as:=[]) (bs:=[]) (.str _ _) (.cons (as:=[]) (bs:=[]) (gK h2 (kZ h h3)) (.cons (as:=[]) (bs:=[]) (.int _ _) (.cons (as:=[]) (bs:=[]) (gL h4) .nil))))
theorem pO(x y:List Int):PyData.eqvAll (x.map .int) (y.map .int)=decide (x=y):=by
 induction x generalizing y with
 |nil=>cases y <;> rfl
 |cons a x ih=>cases y with
  |nil=>rfl
  |cons b y=>
   show(decide (a=b)&&PyData.eqvAll (x.map .int) (y.map .int))=_
   refine(ih ..).symm▸?_
   by_cases h1:a=b <;> by_cases h2:x=y <;> simp[h1,h2]
theorem uu(x y:Int ⊕ Int×Int):PyData.eqv (cf x) (cf y)=decide (x=y):=by
 rcases x with i|⟨n,d⟩ <;> rcases y with j|⟨m,e⟩ <;> simp only[cf,PyData.eqv,PyData.eqvAll,Bool.and_true]
 ·by_cases h:i=j <;> simp[h]
 ·simp
 ·simp
 ·by_cases h1:n=m <;> by_cases h2:d=e <;> simp[h1,h2]
theorem Bp(x y:Row):PyData.eqv (df x) (df y)=decide (x=y):=by
 obtain⟨a1,a2,a3,a4⟩:=x
 obtain⟨b1,b2,b3,b4⟩:=y
 simp only[df,PyData.eqv,PyData.eqvAll,Bool.and_true,pO,uu]
 by_cases h1:a1=b1 <;> by_cases h2:a2=b2 <;> by_cases h3:a3=b3 <;> by_cases h4:a4=b4 <;> simp[h1,h2,h3,h4]
theorem gq:∀x:List Int,PyData.canLayAll0 (x.map .int)=true
 |[]=>rfl
 |_::x=>gq x
theorem k_{r:Row}(h:PyData.strOk r.1=true):PyData.canLay0 (df r)=true:=by
 obtain⟨a1,a2,a3,a4⟩:=r
 have:PyData.canLay0 (cf a4)=true:=by rcases a4 with i|⟨n,d⟩ <;> rfl
 simp only[df,PyData.canLay0,PyData.canLayAll0,gq,this,Bool.and_true,Bool.true_and]
 exact h
theorem lh:∀x:List Int,PyData.depthAll (x.map .int)<=1
 |[]=>by simp[PyData.depthAll]
 |_::x=>by have:=lh x;simp only[List.map_cons,PyData.depthAll,PyData.depth];lia
theorem vx(r:Row):(df r).depth<=8:=by
 obtain⟨a1,a2,a3,a4⟩:=r
 have h1:(cf a4).depth<=4:=by rcases a4 with i|⟨n,d⟩ <;> simp[cf,PyData.depth,PyData.depthAll]
 have h2:=lh a2
 simp only[df,PyData.depth,PyData.depthAll]
 exact Nat.succ_le_succ (Nat.max_le.mpr ⟨Nat.zero_le _,Nat.max_le.mpr ⟨Nat.le_trans (Nat.succ_le_succ h2) (by decide),Nat.max_le.mpr ⟨Nat.zero_le _,Nat.max_le.mpr ⟨Nat.le_trans h1 (by decide),Nat.zero_le _⟩⟩⟩⟩)
theorem jk{h:Heap}{n:Nat}{a:Addr}{vs:List Value}(hT:Tp h a vs){A:Around}{E:Value->Shared->Prop}{s:Shared}(hs:s.heap=h){Q:Bool->Shared->Prop}
  (hi:∀v∈vs,∀Q:Bool->Shared->Prop,Q true s->wpAny (model PW w) A (eqIsQuiet n v) Q E s)(q:Q true s):wpAny (model PW w) A (eqIsQuiet (n+1) (.ref a)) Q E s:=by
 subst hs
 refine aP hT λc e=>?_
 clear hT
 have hT:s.TypeIs (.ref a) "tuple":=⟨_,e,rfl⟩
 unfold eqIsQuiet
 refine wpAny_bind (wpAny_specialOf hT PySem.F.slot_tuple_eq.lookup ?_)
 show wpAny _ _ (isInstance (.ref a) (.type "tuple")>>=_) _ _ s
 refine wpAny_bind (wpAny_isInstance hT isSubtype_tuple_tuple ?_)
 simp only[Bool.not_true,Bool.false_eq_true,if_false]
 refine wpAny_bind (wpAny_seqItems e rfl ?_)
 refine wpAny_bind ?_
 show wpAny _ _ (forIn vs.toArray _ _) _ _ s
 rw[<-Array.forIn_toList]
 refine wpAny_forIn_list _ (λrest r s'=>r.1=none/\s'=s/\∀v∈rest,v∈vs) _ ?_ ?_ _ _ ⟨rfl,rfl,λv hv=>by simpa using hv⟩
 ·rintro v rest r s' ⟨hr,rfl,mq⟩
  refine wpAny_bind (hi v (mq v List.mem_cons_self) _ ?_)
  simp only[Bool.not_true,Bool.false_eq_true,if_false]
  exact wpAny_pure ⟨rfl,rfl,λu Rp=>mq u (List.mem_cons_of_mem _ Rp)⟩
 ·rintro⟨r1,r2⟩ s' ⟨hr,rfl,_⟩
  simp only at hr
  subst hr
  exact wpAny_pure q
theorem dJ{n:Nat}{v:Value}(h:carriedByValue v=true){A:Around}{E:Value->Shared->Prop}{s:Shared}{Q:Bool->Shared->Prop}(q:Q true s):wpAny (model PW w) A (eqIsQuiet n v) Q E s:=by
 refine(eqIsQuiet_byValue n h).symm▸?_;exact wpAny_pure q
theorem vy{vs:List Value}{is:List Int}(x:IntsAre vs is):∀v∈vs,carriedByValue v=true:=by
 induction x with
 |nil=>intro v hv;cases hv
 |cons i t _ ih=>intro v hv;rcases List.mem_cons.mp hv with rfl|hv;rfl;exact ih v hv
theorem vA{r:Row}{a:Addr}{A:Around}{E:Value->Shared->Prop}{s:Shared}{Q:Bool->Shared->Prop}(x:cG s.heap r a)(q:Q true s):wpAny (model PW w) A (eqIsQuiet 8 (.ref a)) Q E s:=by
 obtain⟨t,va,u,vd,h1,⟨b,vs,rfl,h2,h3⟩,h4⟩:=x
 refine jk h1 rfl (λv hv Q q=>?_) q
 simp only[List.mem_cons,List.not_mem_nil,or_false] at hv
 rcases hv with rfl|rfl|rfl|rfl
 ·exact dJ rfl q
 ·exact jk h2 rfl (λv hv Q q=>dJ (vy h3 v hv) q) q
 ·exact dJ rfl q
 ·rcases h5:r.2.2.2 with i|⟨n,d⟩
  ·replace h4:=h5▸h4;obtain⟨t,rfl⟩:=h4;exact dJ rfl q
  ·replace h4:=h5▸h4
   refine jH h4 λc t t' ak hp=>?_
   clear h4
   obtain rfl:=ak
   refine jk hp rfl (λv hv Q q=>?_) q
   simp only[List.mem_cons,List.not_mem_nil,or_false] at hv
   rcases hv with rfl|rfl <;> exact dJ rfl q
noncomputable def iN:HeapKind PW w Row where
 is h r a:=cG h r a/\PyData.strOk r.1=true
 hash:=ur w.params
 draws:=pN
 room A:=A.units+20<cLine
 inj x y:=x.1.inj y.1
 keeps:=λ{h h' k a d o es ep} x e hd hs=>⟨x.1.up λb ob ht eb=>(hs.2 b λq=>by
  subst q
  replace eb:=e▸eb;cases eb
  unfold isTup at ht
  replace ht:=hd▸ht
  generalize Obj.cls _=c at ht
  cases c <;> cases ht).trans eb,x.2⟩
 pyHash:=λ{A E s k a Q} hr x q=>Ej x.1 A E s.gens s.drawn s.toks s.os Q (by lia) q
 eqBool:=λ{A E s x y a b Q} hr p q h=>PySem.SeqAt.eqBoolOverData PW w A E s (.ref a) (.ref b) (df x) (df y) [] [] Q (mK p.1) (mK q.1) (k_ p.2) (k_ q.2) (Nat.lt_of_le_of_lt (Nat.add_le_add_left (Nat.le_trans (Nat.min_le_left ..) (Nat.le_trans (vx x) (by decide))) _) hr) (by refine(Bp ..).symm▸?_;exact h)
 quiet:=λ{A E s k a Q} x q=>vA x.1 q
def Do{T:Type}[DecidableEq T](knd:KeyKind PW w T)(kvs:List (T×Value)):Obj->Prop:=λo=>o.ExactDict/\∃es ep,o.data= .dict es ep/\KeysOf knd es/\Pairs knd es.toList kvs/\(kvs.map (·.1)).Nodup
def Dk(xs:List (Row×Addr×Value)):Obj->Prop:=λo=>o.ExactDict/\∃es ep,o.data= .dict es ep/\es.toList=xs.map (entryOfKey (iN))
def KeysIn(h:Heap)(xs:List (Row×Addr×Value)):Prop:=∀x∈xs,cG h x.1 x.2.1/\PyData.strOk x.1.1=true
theorem uw{o:Obj}(h:o.ExactDict):isTup o=false:=by
 unfold isTup
 refine h.1.symm▸?_
 split
 ·rename_i e _;cases e;rfl
 ·rfl
theorem Do.nt{T:Type}[DecidableEq T]{knd:KeyKind PW w T}{kvs:List (T×Value)}:∀o,Do knd kvs o->isTup o=false:=λo h=>uw h.1
theorem Dk.nt{xs:List (Row×Addr×Value)}:∀o,Dk xs o->isTup o=false:=λo h=>uw h.1
theorem KeysIn.up{g h:Heap}{xs:List (Row×Addr×Value)}(x:KeysIn g xs)(s:cy g h):KeysIn h xs:=λp hp=>⟨(x p hp).1.up s,(x p hp).2⟩
section
variable{A:Around}{E:Value->Heap->Prop}{h h' g:Heap}{env:Env}{L:Addr}{m:Str->Option Value}{ρ:List (Addr×Obj)}{l l' l₀ l₁:List Cell}
theorem Do.dictOf{T:Type}[DecidableEq T]{knd:KeyKind PW w T}{kvs:List (T×Value)}{a:Addr}{o:Obj}(x:Do knd kvs o)(e:h.get? a=some o):h.DictOf knd a kvs:=by
 obtain⟨h1,es,ep,h2,h3⟩:=x
 exact⟨o,es,ep,e,h1,h2,h3⟩
theorem Do.of{T:Type}[DecidableEq T]{knd:KeyKind PW w T}{kvs:List (T×Value)}{a:Addr}(x:h.DictOf knd a kvs):Gt h a (Do knd kvs):=by
 refine He x λo es ep e h1 h2 h3=>?_
 clear x
 exact⟨o,e,h1,es,ep,h2,h3⟩
theorem Dk.dictOf{xs:List (Row×Addr×Value)}{a:Addr}{o:Obj}(x:Dk xs o)(e:h.get? a=some o)(k:KeysIn h xs)(n:(xs.map (·.1)).Nodup):h.DictOfH (iN) a xs:=by
 obtain⟨h1,es,ep,h2,h3⟩:=x
 exact⟨o,es,ep,e,h1,h2,h3,k,n⟩
theorem Dk.of{xs:List (Row×Addr×Value)}{a:Addr}(x:h.DictOfH (iN) a xs):Gt h a (Dk xs):=by
 refine JS x λo es ep e h1 h2 h3 ζ=>?_
 clear x
 exact⟨o,e,h1,es,ep,h2,h3⟩
theorem Ek{d a:Addr}{xs:List (Row×Addr×Value)}{r:Row}{dflt:Value}{Q:Value->Heap->Prop}(hu:A.units+30<cLine)(hd:2<=d)(F:Fx ρ g L m l h)(hm:(d,Dk xs)∈l)(ks:KeysIn h xs)(n:(xs.map (·.1)).Nodup)(kr:cG h r a)(ok:PyData.strOk r.1=true)
  (k:Q (((atKey xs r).map (·.2)).getD dflt) h):Wp A (call (.builtin "dict.get") [.ref d,.ref a,dflt]) Q E h:=.of λgg dd kk o Q' E' hQ hE=>by
 obtain⟨ob,e,p⟩:=F.get hm
 have D:=p.dictOf e ks n
 refine call_meetsIn (s:=⟨h,gg,dd,kk,o⟩) PySem.F.slot_dict_get D.typeIs PySem.F.entry_dict_get (PySem.F.args_dict_get_3 _ _ _) (meetsH_dict_get_default (iN) d a (beq_eq_false_iff_ne.mpr λq=>absurd hd (by refine q.symm▸?_;decide)) dflt) ⟨?_,r,xs,⟨kr,ok⟩,D,hQ _ _ _ k⟩
 show A.in1.units+20<cLine
 refine(Around.in1_units ..).symm▸?_;lia
theorem El{d a:Addr}{xs:List (Row×Addr×Value)}{r:Row}{v:Value}{Q:Unit->Heap->Prop}(hu:A.units+30<cLine)(F:Fx ρ g L m (l₀++(d,Dk xs)::l₁) h)(ks:KeysIn h xs)(n:(xs.map (·.1)).Nodup)(kr:cG h r a)(ok:PyData.strOk r.1=true)(hz:xs.length<=10000)(Em:atKey xs r=none)
  (k:∀h',Fx ρ g L m (l₀++(d,Dk (xs++[(r,a,v)]))::l₁) h'->Q () h'):Wp A (setItem (.ref d) (.ref a) v) Q E h:=.of λgg dd kk o Q' E' hQ hE=>by
 obtain⟨ob,e,p⟩:=F.get (a:=d) (p:=Dk xs) (List.mem_append_right _ List.mem_cons_self)
 refine wpAny_setItem_heap (s:=⟨h,gg,dd,kk,o⟩) (knd:=iN) (k:=r) (xs:=xs) ?_ ⟨kr,ok⟩ (p.dictOf e ks n) (λh' x y=>hQ _ _ _ (k h' ?_)) (Nat.le_trans hz (by decide))
 ·show A.in1.units+20<cLine
  refine(Around.in1_units ..).symm▸?_;lia
 ·obtain⟨o',e',p'⟩:=Dk.of x
  replace p':=(storedH_new Em ..)▸p'
  exact F.turn y e' p' Dk.nt
def Dd{T:Type}[DecidableEq T](knd:KeyKind PW w T)(h:Heap)(d:Addr)(kvs:List (T×Value)):Prop:=Gt h d (Do knd kvs)
theorem Dd.up{T:Type}[DecidableEq T]{knd:KeyKind PW w T}{d:Addr}{kvs:List (T×Value)}(x:Dd knd g d kvs)(s:Sub g h):Dd knd h d kvs:=by
 obtain⟨o,e,p⟩:=x
 exact⟨o,s _ _ e,p⟩
theorem sR{T:Type}[DecidableEq T]{knd:KeyKind PW w T}{value slice:Expr}{d:Addr}{key v:Value}{c:T}{kvs:List (T×Value)}{Q:Value->Heap->Prop}(e:Dd knd h d kvs)(hk:knd.is c key=true)(hv:valueAt kvs c=some v)(k:Q v h)
  (hs:subscripted slice false (.ref d) key=operate [.ref d,key] (getItem (.ref d) key):=by k_extra "R"):Wp A (subscriptTail value slice (.ref d) key) Q E h:=.of λgg dd kk o Q' E' hQ hE=>by
 obtain⟨ob,e,p⟩:=e
 have D:=p.dictOf e
 exact tail_any (s:=⟨h,gg,dd,kk,o⟩) D.typeIs slot_dict_getitem.lookup (wpAny_getItem_of hk D.mapOf hv (hQ _ _ _ k)) hs
theorem En{T:Type}[DecidableEq T]{knd:KeyKind PW w T}{d:Addr}{key v:Value}{c:T}{kvs:List (T×Value)}{Q:Unit->Heap->Prop}(F:Fx ρ g L m (l₀++(d,Do knd kvs)::l₁) h)(hk:knd.is c key=true)(hz:kvs.length<=10000)
  (k:∀h',Fx ρ g L m (l₀++(d,Do knd (stored kvs c v))::l₁) h'->Q () h'):Wp A (setItem (.ref d) key v) Q E h:=.of λgg dd kk o Q' E' hQ hE=>by
 obtain⟨ob,e,p⟩:=F.get (a:=d) (p:=Do knd kvs) (List.mem_append_right _ List.mem_cons_self)
 refine wpAny_setItem_pairs (s:=⟨h,gg,dd,kk,o⟩) hk (p.dictOf e) (λh' x y=>hQ _ _ _ (k h' ?_)) (Nat.le_trans hz (by decide))
 obtain⟨o',e',p'⟩:=Do.of x
 exact F.turn y e' p' Do.nt
theorem jL{o i pos' value pos}{Q:Flow->Heap->Prop}(x:Wp A (eval value env) (λv h1=>Wp A (eval o env) (λov h2=>Wp A (eval i env) (λiv h3=>Wp A (setItem ov iv v) (λζ=>Q .next) E h3) E h2) E h1) E h)
  (hs:swapsWith value (some (.Subscript o i pos')) pos.line env=pure false:=by rfl):Wp A (exec (.Assign [.Subscript o i pos'] value pos) env) Q E h:=
 .of λg d k os Q' E' hQ hE=>wpAny_Assign_Subscript (x.go g d k os _ _ (λv h1 k1 a=>a.go g d k1 os _ E' (λov h2 k2 b=>b.go g d k2 os _ E' (λiv h3 k3 c=>c.go g d k3 os _ E' (λζ h4 k4 q=>hQ _ _ _ q) hE) hE) hE) hE) hs
theorem jl{pl:Sem Bool}{a:Addr}{xs:List Value}{Q:Value×List Value->Heap->Prop}(e:Ls h a xs)(k:Q (.builtin "list.append",[.ref a]) h):Wp A (getMethod (.ref a) "append" pl) Q E h:=.of λgg dd kk o Q' E' hQ hE=>by
 obtain⟨ob,e,h1,h2,n,h3⟩:=e
 exact getMethod_list_append (s:=⟨h,gg,dd,kk,o⟩) e h1 h2 (hQ _ _ _ k)
theorem Eo{pl:Sem Bool}{d:Addr}{Q:Value×List Value->Heap->Prop}(e:∃o,h.get? d=some o/\o.ExactDict)(k:Q (.builtin "dict.get",[.ref d]) h):Wp A (getMethod (.ref d) "get" pl) Q E h:=.of λgg dd kk o Q' E' hQ hE=>by
 refine aU e λob e h1=>?_
 exact getMethod_builtin (s:=⟨h,gg,dd,kk,o⟩) (⟨ob,e,h1.1⟩:Shared.TypeIs _ (.ref d) "dict") PySem.F.plainAttrs_dict PySem.F.slot_dict_get PySem.F.type_dict_get (λb e'=>by cases e';exact⟨ob,e,h1.2.1⟩) (hQ _ _ _ k)
theorem yR{a:Addr}{xs:List Value}{Q:Value->Heap->Prop}(e:Ls h a xs)(hz:xs.length<=100000)(k:∀t,Q (.int xs.length t) h):Wp A (call (.builtin "len") ([]++[.ref a])) Q E h:=.of λgg dd kk o Q' E' hQ hE=>by
 obtain⟨ob,e,p⟩:=e
 exact call_len_list (s:=⟨h,gg,dd,kk,o⟩) (p.isList e) (by refine List.size_toArray.symm▸?_;lia) (hQ _ _ _ (by refine List.size_toArray.symm▸?_;exact k _))
end
inductive dA(a:Addr)(p p':Obj->Prop):List Cell->List Cell->Prop
 |hd {l}:dA a p p' ((a,p)::l) ((a,p')::l)
 |tl {c l l'}:dA a p p' l l'->dA a p p' (c::l) (c::l')
theorem dA.split{a:Addr}{p p':Obj->Prop}{l l':List Cell}(u:dA a p p' l l'):∃l₀ l₁,l=l₀++(a,p)::l₁/\l'=l₀++(a,p')::l₁:=by
 induction u with
 |hd=>exact⟨[],_,rfl,rfl⟩
 |tl _ ih=>obtain⟨l₀,l₁,rfl,rfl⟩:=ih;exact⟨_::l₀,l₁,rfl,rfl⟩
section
variable{A:Around}{E:Value->Heap->Prop}{h h' g:Heap}{env:Env}{L:Addr}{m:Str->Option Value}{ρ:List (Addr×Obj)}{l l':List Cell}
theorem yS{a:Addr}{xs:List Value}{v:Value}{Q:Value->Heap->Prop}(F:Fx ρ g L m l h)(u:dA a (Lo xs) (Lo (xs++[v])) l l')(hY:xs.length<=10000)(k:∀h',Fx ρ g L m l' h'->Q .none h'):Wp A (call (.builtin "list.append") ([.ref a]++[v])) Q E h:=by
 refine dm u.split λl₀ l₁ ak iO=>?_
 obtain rfl:=ak
 obtain rfl:=iO
 exact kI F hY k
theorem Lh{d a:Addr}{xs:List (Row×Addr×Value)}{r:Row}{v:Value}{Q:Unit->Heap->Prop}(F:Fx ρ g L m l h)(u:dA d (Dk xs) (Dk (xs++[(r,a,v)])) l l')(hu:A.units+30<cLine)(ks:KeysIn h xs)(n:(xs.map (·.1)).Nodup)(kr:cG h r a)(ok:PyData.strOk r.1=true)(hz:xs.length<=10000)(Em:atKey xs r=none)
  (k:∀h',Fx ρ g L m l' h'->Q () h'):Wp A (setItem (.ref d) (.ref a) v) Q E h:=by
 refine dm u.split λl₀ l₁ ak iO=>?_
 obtain rfl:=ak
 obtain rfl:=iO
 exact El hu F ks n kr ok hz Em k
theorem HB{T:Type}[DecidableEq T]{knd:KeyKind PW w T}{d:Addr}{key v:Value}{c:T}{kvs:List (T×Value)}{Q:Unit->Heap->Prop}(F:Fx ρ g L m l h)(u:dA d (Do knd kvs) (Do knd (stored kvs c v)) l l')(hk:knd.is c key=true)(hz:kvs.length<=10000)
  (k:∀h',Fx ρ g L m l' h'->Q () h'):Wp A (setItem (.ref d) key v) Q E h:=by
 refine dm u.split λl₀ l₁ ak iO=>?_
 obtain rfl:=ak
 obtain rfl:=iO
 exact En F hk hz k
end
section
variable{P:Params}{ρ:List (Addr×Obj)}{g h:Heap}{L:Addr}{m:Str->Option Value}{l:List Cell}
theorem In.lf{x C:Addr}{al:List (Str×Value)}(I:In P g x C al)(s:Sub g h):In P h x C al:=I.up s
theorem Ls.lf{a:Addr}{xs:List Value}(I:Ls g a xs)(s:Sub g h):Ls h a xs:=I.up s
theorem Dd.lf{T:Type}[DecidableEq T]{knd:KeyKind PW w T}{a:Addr}{xs:List (T×Value)}(I:Dd knd g a xs)(s:Sub g h):Dd knd h a xs:=I.up s
theorem aD.lf{v:Value}{x:Int ⊕ Int×Int}(I:aD g v x)(s:Sub g h):aD h v x:=I.up s.aj
theorem bQ.lf{v:Value}{x:List Int}(I:bQ g v x)(s:Sub g h):bQ h v x:=I.up s.aj
theorem KeysIn.lf{xs:List (Row×Addr×Value)}(I:KeysIn g xs)(s:Sub g h):KeysIn h xs:=I.up s.aj
theorem cG.lf{a:Addr}{r:Row}(I:cG g r a)(s:Sub g h):cG h r a:=I.up s.aj
theorem Ls.own{a:Addr}{xs:List Value}(F:Fx ρ g L m l h)(hm:(a,Lo xs)∈l):Ls h a xs:=F.get hm
theorem Dd.own{T:Type}[DecidableEq T]{knd:KeyKind PW w T}{a:Addr}{xs:List (T×Value)}(F:Fx ρ g L m l h)(hm:(a,Do knd xs)∈l):Dd knd h a xs:=F.get hm
theorem aD.yT{v:Value}{x:Int ⊕ Int×Int}(s:Sub g h)(I:aD g v x):aD h v x:=I.up s.aj
theorem bQ.yT{v:Value}{x:List Int}(s:Sub g h)(I:bQ g v x):bQ h v x:=I.up s.aj
end
structure dg where
 self:Addr
 ops:Addr
 args:Addr
 sorts:Addr
 ae:Addr
 nums:Addr
 al:List (Str×Value)
noncomputable abbrev Bl(k:dg)(ops args sorts ae:List Value)(xs:List (Row×Addr×Value)):List Cell:=[(k.ops,Lo ops),(k.args,Lo args),(k.sorts,Lo sorts),(k.ae,Lo ae),(k.nums,Dk xs)]
structure lj(h:Heap)(r:Row)(vo va vs vd:Value):Prop where
 op:∃t,vo= .str r.1 t
 args:bQ h va r.2.1
 sort:∃t,vs= .int r.2.2.1 t
 data:aD h vd r.2.2.2
inductive bX(h:Heap):List Row->List Value->List Value->List Value->List Value->Prop
 |nil:bX h [] [] [] [] []
 |cons {r B vo ops va args vs sorts vd ae}:lj h r vo va vs vd->bX h B ops args sorts ae->bX h (r::B) (vo::ops) (va::args) (vs::sorts) (vd::ae)
theorem lj.up{g h:Heap}{r:Row}{a b c d:Value}(x:lj g r a b c d)(s:cy g h):lj h r a b c d:=⟨x.op,x.args.up s,x.sort,x.data.up s⟩
theorem bX.up{g h:Heap}(s:cy g h){B:List Row}{o a st d:List Value}(x:bX g B o a st d):bX h B o a st d:=by
 induction x with
 |nil=>exact .nil
 |cons r _ ih=>exact .cons (r.up s) ih
theorem bX.snoc{h:Heap}{r:Row}{vo va vs vd:Value}(y:lj h r vo va vs vd){B:List Row}{o a st d:List Value}(x:bX h B o a st d):bX h (B++[r]) (o++[vo]) (a++[va]) (st++[vs]) (d++[vd]):=by
 induction x with
 |nil=>exact .cons y .nil
 |cons r _ ih=>exact .cons r ih
theorem bX.len{h:Heap}{B:List Row}{o a st d:List Value}(x:bX h B o a st d):o.length=B.length/\a.length=B.length/\st.length=B.length/\d.length=B.length:=by
 induction x with
 |nil=>exact⟨rfl,rfl,rfl,rfl⟩
 |cons r _ ih=>simp[ih]
theorem bX.get{h:Heap}{B:List Row}{o a st d:List Value}(x:bX h B o a st d){i:Nat}{r:Row}(e:B[i]? =some r):∃vo va vs vd,o[i]? =some vo/\a[i]? =some va/\st[i]? =some vs/\d[i]? =some vd/\lj h r vo va vs vd:=by
 induction x generalizing i with
 |nil=>cases e
 |cons r' _ ih=>
  cases i with
  |zero=>cases e;exact⟨_,_,_,_,rfl,rfl,rfl,rfl,r'⟩
  |succ i=>simpa using ih (by simpa using e)
inductive Li(h:Heap)(r:Row)(ops args sorts ae:List Value)(i:Nat):Prop
 |mk (to ts:Tok) (va vd:Value) (e1:ops[i]? =some (.str r.1 to)) (e2:args[i]? =some va) (e3:sorts[i]? =some (.int r.2.2.1 ts)) (e4:ae[i]? =some vd) (ra:bQ h va r.2.1) (rd:aD h vd r.2.2.2)
theorem bX.row{h:Heap}{B:List Row}{o a st d:List Value}(x:bX h B o a st d){i:Nat}{r:Row}(e:B[i]? =some r):Li h r o a st d i:=by
 obtain⟨vo,va,vs,vd,e1,e2,e3,e4,⟨⟨to,rfl⟩,ra,⟨ts,rfl⟩,rd⟩⟩:=x.get e
 exact⟨to,ts,va,vd,e1,e2,e3,e4,ra,rd⟩
noncomputable def ik:Row:=(U "",[],0,.inl 0)
structure Bk(k:dg)(B:List Row)(ops args sorts ae:List Value)(xs:List (Row×Addr×Value))(h:Heap):Prop where
 rows:bX h B ops args sorts ae
 keys:KeysIn h xs
 same:ik::xs.map (·.1)=B
 nd:(xs.map (·.1)).Nodup
 vals:∀j r a v,xs[j]? =some (r,a,v)->∃t,v=Value.int ((j+1:Nat):Int) t
theorem Bk.up{k:dg}{B:List Row}{o a s d:List Value}{xs:List (Row×Addr×Value)}{g h:Heap}(b:Bk k B o a s d xs g)(t:cy g h):Bk k B o a s d xs h:=⟨b.rows.up t,b.keys.up t,b.same,b.nd,b.vals⟩
structure dS(k:dg):Prop where
 ops:k.al.lookup (U "term_ops")=some (.ref k.ops)
 args:k.al.lookup (U "term_args")=some (.ref k.args)
 sorts:k.al.lookup (U "term_sorts")=some (.ref k.sorts)
 ae:k.al.lookup (U "term_datas")=some (.ref k.ae)
 nums:k.al.lookup (U "numbers")=some (.ref k.nums)
 big:2<=k.nums
 jm:∀p∈ei,k.al.lookup p.1=none
structure Bi(k:dg)(g:Heap):Prop where
 gd:Gd g
 inst:In w.params g k.self 638 k.al
def Mk(B:List Row)(r:Row)(i:Nat)(B':List Row):Prop:=(B'=B/\B[i]? =some r/\1<=i)\/(r∉B.tail/\B'=B++[r]/\i=B.length)
section
variable{A:Around}{E:Value->Heap->Prop}{h g:Heap}{L:Addr}{m:Str->Option Value}{ρ:List (Addr×Obj)}{l:List Cell}
theorem Bq{pl:Sem Bool}{d:Addr}{xs:List (Row×Addr×Value)}{Q:Value×List Value->Heap->Prop}(F:Fx ρ g L m l h)(hm:(d,Dk xs)∈l)(k:Q (.builtin "dict.get",[.ref d]) h):Wp A (getMethod (.ref d) "get" pl) Q E h:=
 Eo (let⟨o,e,p⟩:=F.get hm;⟨o,e,p.1⟩) k
theorem sS{xs:List (Row×Addr×Value)}{r:Row}{p:Addr×Value}(e:atKey xs r=some p):∃j:Nat,xs[j]? =some (r,p.1,p.2):=by
 unfold atKey at e
 refine aU (Option.map_eq_some_iff.mp e) λx hx ak=>?_
 obtain rfl:=ak
 have h1:=List.find?_some hx
 have h2:=List.mem_of_find?_eq_some hx
 refine aP (List.getElem?_of_mem h2) λj hj=>?_
 refine⟨j,?_⟩
 refine hj.symm▸?_
 obtain⟨x1,x2⟩:=x
 have:x1=r:=by simpa using h1
 refine this.symm▸?_
 rfl
theorem sT{xs:List (Row×Addr×Value)}{r:Row}(e:atKey xs r=none):r∉xs.map (·.1):=λhm=>by
 refine aU (List.mem_map.mp hm) λx hx e'=>?_
 unfold atKey at e
 rw[Option.map_eq_none_iff,List.find?_eq_none] at e
 exact e x hx (by simpa using e')
theorem Bk.size{k:dg}{B:List Row}{o a s d:List Value}{xs:List (Row×Addr×Value)}(b:Bk k B o a s d xs h):B.length=xs.length+1:=by refine b.same▸?_;simp
end
theorem Bk.lf{k:dg}{B:List Row}{o a s d:List Value}{xs:List (Row×Addr×Value)}{g h:Heap}(b:Bk k B o a s d xs g)(t:Sub g h):Bk k B o a s d xs h:=b.up t.aj
theorem Bk.snoc{k:dg}{B:List Row}{o a s d:List Value}{xs:List (Row×Addr×Value)}{h:Heap}(b:Bk k B o a s d xs h){r:Row}{vo va vs vd:Value}{c:Addr}{t:Tok}(y:lj h r vo va vs vd)(kr:cG h r c)(ok:PyData.strOk r.1=true)(hn:r∉xs.map (·.1)):
  Bk k (B++[r]) (o++[vo]) (a++[va]) (s++[vs]) (d++[vd]) (xs++[(r,c,.int (B.length:Nat) t)]) h:=by
 refine⟨b.rows.snoc y,λp hp=>?_,?_,?_,λj r' a' v' hj=>?_⟩
 ·rcases List.mem_append.mp hp with hp|hp
  ·exact b.keys p hp
  ·refine(List.mem_singleton.mp hp).symm▸?_;exact⟨kr,ok⟩
 ·refine b.same▸?_;simp
 ·refine List.map_append.symm▸?_
  refine List.nodup_append.mpr ⟨b.nd,List.nodup_cons.mpr ⟨(λh=>nomatch h),List.nodup_nil⟩,λx hx y hy e=>?_⟩
  subst e
  replace hx:=(List.mem_singleton.mp hy)▸hx
  exact hn hx
 ·rcases Nat.lt_or_ge j xs.length with HC|HC
  ·replace hj:=(List.getElem?_append_left HC)▸hj
   exact b.vals j _ _ _ hj
  ·replace hj:=(List.getElem?_append_right HC)▸hj
   have:j-xs.length=0:=by
    rcases hz:j-xs.length with _|n
    ·rfl
    ·replace hj:=hz▸hj;simp at hj
   replace hj:=this▸hj
   simp only[List.getElem?_cons_zero,Option.some.injEq,Prod.mk.injEq] at hj
   refine⟨t,?_⟩
   refine hj.2.2▸b.size.symm▸(show j=xs.length from Nat.le_antisymm (Nat.sub_eq_zero_iff_le.mp (by assumption)) (by assumption)).symm▸?_
   rfl
section
variable{ρ:List (Addr×Obj)}{g h h':Heap}{L:Addr}{m:Str->Option Value}{l l' l₀ l₁:List Cell}
theorem Fx.bF(F:Fx ρ g L m l h):Gx [] g l h:=Fx.gr (l₀:=[]) (l₁:=[]) (by simpa using F)
theorem Fx.aT(F:Fx ρ g L m l h)(s:Step [] l h l' h'):Nx ρ g L m l' h':=by
 have:=Fx.ja (l₀:=[]) (l₁:=[]) (by simpa using F) s
 simpa using this
theorem Fx.ux(F:Fx ρ g L m (l₀++l) h):Gx [] g l h:=Fx.gr (l₀:=l₀) (l₁:=[]) (by simpa using F)
theorem Fx.ll(F:Fx ρ g L m (l₀++l) h)(s:Step [] l h l' h'):Nx ρ g L m (l₀++l') h':=by
 have:=Fx.ja (l₀:=l₀) (l₁:=[]) (by simpa using F) s
 simpa using this
end
theorem vC{A:Around}{E:Value->Heap->Prop}{h:Heap}{k:dg}{name:Str}{pl:Sem Bool}{f:Addr}{Q:Value×List Value->Heap->Prop}(At:dS k)(G:Gd h)(I:In w.params h k.self 638 k.al)(hn:(name,f)∈ei)(K:Q (.ref f,[.ref k.self]) h):Wp A (getMethod (.ref k.self) name pl) Q E h:=
 Eg G I hn (At.jm _ hn) K
theorem yU{A:Around}{E:Value->Heap->Prop}{h:Heap}{k:dg}{name:Str}{pl:Sem Bool}{f:Addr}{Q:Value×List Value->Heap->Prop}(At:dS k)(G:Gd h)(I:In w.params h k.self 638 k.al)(hn:Kv ei name f)(K:Q (.ref f,[.ref k.self]) h):Wp A (getMethod (.ref k.self) name pl) Q E h:=vC At G I hn.mem K
def Lit(a:Addr)(i:Nat):Obj->Prop:=λo=>o.cls= .type "list_iterator"/\o.data= .fields #[.ref a,.int i 0]
theorem Lit.nt{a:Addr}{i:Nat}:∀o,Lit a i o->isTup o=false:=λo h=>by
 unfold isTup
 refine h.2.symm▸?_
 split <;> simp_all
def fB(A:Around)(env:Env)(E:Value->Heap->Prop)(e:Value)(h:Heap):Prop:=
 Wp A (noteFrame e env) (λζ h2=>Wp A (do
  if(<-field e 1)==.none then unsupported "frame.own-activation:exception-without-traceback"
  setFlight e env.frame) (λζ h3=>E e h3) E h2) (λζ ζ=>False) h
section
variable{A:Around}{E E₁:Value->Heap->Prop}{h h' g:Heap}{env:Env}{L:Addr}{m:Str->Option Value}{ρ:List (Addr×Obj)}{l l':List Cell}
theorem fB.at{e:Value}(x:fB A env E e h)(gg:Array GenState)(d:Drawn)(k:Nat)(o:OsState){E':Value->Shared->Prop}(hE:∀e h' k',E e h'->E' e ⟨h',gg,d,k',o⟩){N:Value->Shared->Prop}(hR:∀s,cameBackBy (model PW w) A env E' e s->N e s):
  notedBy (model PW w) A env N e ⟨h,gg,d,k,o⟩:=
 Wp.go x gg d k o _ _ (λζ h2 k2 q=>hR _ (Wp.go q gg d k2 o _ _ (λζ h3 k3 z=>hE _ _ _ z) hE)) λe h2 k2 q=>q.elim
end
section
variable{A:Around}{E:Value->Heap->Prop}{h:Heap}
theorem HD{a b:Value}{da db:PyData}{Q:Value->Heap->Prop}(ha:Reads h a da [])(hb:Reads h b db [])(ca:PyData.canLay0 da=true)(cb:PyData.canLay0 db=true)(hu:A.units+da.depth<cLine)(k:Q (.bool (PyData.eqv da db)) h):Wp A (compareOp .Eq a b) Q E h:=.of λg d kk o Q' E' hQ hE=>by
 show wpAny _ _ (richCompare .Eq a b) _ _ _
 exact PySem.SeqAt.eqOverData PW w A E' ⟨h,g,d,kk,o⟩ a b da db [] [] Q' ha hb ca cb (Nat.lt_of_le_of_lt (Nat.add_le_add_left (Nat.min_le_left ..) _) (by assumption)) (hQ _ _ _ k)
theorem C9{x y:Str}{t u:Tok}{Q:Value->Heap->Prop}(k:Q (.bool (x==y)) h):Wp A (compareOp .Eq (.str x t) (.str y u)) Q E h:=.of λg d kk o Q' E' hQ hE=>PyProof.Rows.eq_str (hQ _ _ _ k)
theorem C_{x y:Str}{t u:Tok}{Q:Value->Heap->Prop}(k:Q (.bool (x !=y)) h):Wp A (compareOp .NotEq (.str x t) (.str y u)) Q E h:=.of λg d kk o Q' E' hQ hE=>PyProof.Rows.ne_str (hQ _ _ _ k)
theorem yV{v:Value}{Q:Value->Heap->Prop}(k:Q (.bool (v==.none)) h):Wp A (compareOp .Is v .none) Q E h:=.of λg d kk o Q' E' hQ hE=>is_none_gen (hQ _ _ _ k)
theorem sU{a:Addr}{Q:Value->Heap->Prop}(k:Q (.bool true) h):Wp A (compareOp .IsNot (.ref a) .none) Q E h:=.of λg d kk o Q' E' hQ hE=>isnot_ref_none (hQ _ _ _ k)
theorem pP{a b:Bool}{Q:Value->Heap->Prop}(k:Q (.bool (!(a==b))) h):Wp A (compareOp .IsNot (.bool a) (.bool b)) Q E h:=.of λg d kk o Q' E' hQ hE=>by
 cases a <;> cases b <;> first|exact wpAny_isNot_self rfl (hQ _ _ _ k)|exact wpAny_isNot_other rfl (by decide) (hQ _ _ _ k)
end
section
variable{A:Around}{E:Value->Heap->Prop}{h g:Heap}{env:Env}{L:Addr}{m:Str->Option Value}{ρ:List (Addr×Obj)}{l:List Cell}
theorem dU{pos:Pos}{T:String}{e:Expr}{rest:List Expr}{Q:Value->Heap->Prop}
  (x:Wp A (spliced (backTo pos (starEach (e::rest) env))) (λvs h1=>Wp A (call (.type T) vs) Q E h1) E h)
  (he:starEach (e::rest) env=(false,eval e env)::starEach rest env:=by rfl)(hp:(backTo pos (starEach rest env)).any (·.1)=false:=by rfl):Wp A (callWith pos (.type T) [] (backTo pos (starEach (e::rest) env)) []) Q E h:=
 .of λg d k o Q' E' hQ hE=>PyProof.Rows.callWith_type1 (x.go g d k o _ _ (λvs h1 k1 hv=>hv.go g d k1 o Q' E' hQ hE) hE) he hp
theorem yW{a:Addr}{xs:List Value}{Q:Value->Heap->Prop}(F:Fx ρ g L m l h)(e:Ls h a xs)(hz:xs.length<=100000)(k:∀b g' h',Sub g g'->Tp g' b xs->Fx ρ g' L m l h'->Q (.ref b) h'):Wp A (call (.type "tuple") [.ref a]) Q E h:=.of λgg d kk o Q' E' hQ hE=>by
 obtain⟨ob,e,p⟩:=e
 refine call_tuple_list (s:=⟨h,gg,d,kk,o⟩) (p.isList e) (λh' hk=>hQ _ _ _ ?_) (by refine List.size_toArray.symm▸?_;exact Nat.le_trans hz (by decide))
 obtain⟨g1,s1,F1⟩:=F.ext hk
 obtain⟨g2,s2,t2,F2⟩:=F1.yt (o7 xs 0)
 exact k _ g2 _ (s1.trans s2) ⟨0,t2⟩ F2
theorem yX{a:Addr}{xs:List Value}{Q:Value->Heap->Prop}(e:Tp h a xs)(k:Q (.ref a) h):Wp A (call (.type "tuple") [.ref a]) Q E h:=.of λgg d kk o Q' E' hQ hE=>by
 refine aP e λc e=>?_
 exact call_tuple_tup (s:=⟨h,gg,d,kk,o⟩) (iI e) (hQ _ _ _ k)
theorem vD{Q:Value->Heap->Prop}(k:Q (.bool false) h):Wp A (compareOp .IsNot .none .none) Q E h:=.of λg d kk o Q' E' hQ hE=>wpAny_isNot_self rfl (hQ _ _ _ k)
theorem Br{a:Addr}{xs:List Value}{Q:Value->Heap->Prop}(e:Tp h a xs)(k:Q (.bool false) h):Wp A (call (.builtin "isinstance") ([]++[.ref a,.type "bool"])) Q E h:=.of λg d kk o Q' E' hQ hE=>by
 refine aP e λc e=>?_
 exact PySem.IsiPair.tuple_bool (s:=⟨h,g,d,kk,o⟩) e rfl (hQ _ _ _ k)
theorem HE{a:Addr}{v:Value}{vs:List Value}{d:PyData}{ds:List PyData}{Q:Value->Heap->Prop}(hA:Rm A 0)(e:Tp h a vs)(rs:ReadsAll h vs ds [])(rx:Reads h v d [])(cs:PyData.canLayAll0 ds=true)(cx:PyData.canLay0 d=true)(hd:d.depth<=20)(k:Q (.bool (ds.any λy=>PyData.eqv y d)) h):Wp A (compareOp .In v (.ref a)) Q E h:=.of λg dd kk o Q' E' hQ hE=>
 PySem.SeqAt.in_tuple_reads (s:=⟨h,g,dd,kk,o⟩) (gK e rs) rx cs cx (by have:=hA.un;show A.units+1+_<9900;exact Nat.lt_of_le_of_lt (Nat.add_le_add (Nat.add_le_add_right this 1) (Nat.le_trans (Nat.min_le_right ..) (by assumption))) (by decide)) (hQ _ _ _ k)
theorem Ep{a:Addr}{v:Value}{vs:List Value}{d:PyData}{ds:List PyData}{Q:Value->Heap->Prop}(hA:Rm A 0)(e:Ls h a vs)(rs:ReadsAll h vs ds [])(rx:Reads h v d [])(cs:PyData.canLayAll0 ds=true)(cx:PyData.canLay0 d=true)(hd:d.depth<=20)(k:Q (.bool (!(ds.any λy=>PyData.eqv y d))) h):Wp A (compareOp .NotIn v (.ref a)) Q E h:=.of λg dd kk o Q' E' hQ hE=>by
 obtain⟨ob,e,p1,ζ,n,p3⟩:=e
 exact PySem.SeqAt.notIn_list_reads (s:=⟨h,g,dd,kk,o⟩) (.list e p1 p3 (by simpa using rs)) rx cs cx (by have:=hA.un;show A.units+1+_<9900;exact Nat.lt_of_le_of_lt (Nat.add_le_add (Nat.add_le_add_right this 1) (Nat.le_trans (Nat.min_le_right ..) (by assumption))) (by decide)) (hQ _ _ _ k)
theorem yY{b:Bool}{Q:Value->Heap->Prop}(k:Q (.bool (!b)) h):Wp A (unaryOp .Not (.bool b)) Q E h:=.of λg d kk o Q' E' hQ hE=>PyProof.Rows.not_of (wpAny_truthy_bool (hQ _ _ _ k))
end
def Ce(v:Option Value):Obj->Prop:=λo=>o.data= .cell v
theorem Ce.nt{v:Option Value}:∀o,Ce v o->isTup o=false:=λo h=>by
 unfold isTup
 refine(show o.data=_ from h).symm▸?_
 split <;> simp_all
def Ck(h:Heap)(c:Addr)(v:Value):Prop:=Gt h c (Ce (some v))
theorem Ck.up{g h:Heap}{c:Addr}{v:Value}(x:Ck g c v)(s:Sub g h):Ck h c v:=by
 obtain⟨o,e,p⟩:=x
 exact⟨o,s _ _ e,p⟩
structure Ec(env:Env)(cs:List (Str×Addr)):Prop where
 kind:∀p∈cs,env.kindOf p.1=some .cell/\(p.1==("__debug__":Str))=false/\env.cells.lookup p.1=some p.2
theorem vF(kd:Str->Option NameKind)(bs:List (Str×Value))(m:Str->Option Value)(y:Str):bindL kd bs m y=(match (bs.filter λp=>kd p.1==some .local).reverse.lookup y with|some v=>some v|none=>m y):=by
 induction bs generalizing m with
 |nil=>rfl
 |cons p bs ih=>
  show bindL kd bs _ y=_
  refine(ih ..).symm▸?_
  by_cases h:kd p.1=some .local
  ·refine(if_pos h).symm▸?_
   rw[List.filter_cons_of_pos (by simpa using h)]
   refine List.reverse_cons.symm▸?_
   rw[List.lookup_append]
   cases (List.filter (λp=>kd p.1==some .local) bs).reverse.lookup y with
   |some u=>rfl
   |none=>
    show _=match (match y==p.1 with|true=>some p.2|false=>none) with|some v=>some v|none=>m y
    by_cases e:y=p.1
    ·refine(beq_iff_eq.mpr e).symm▸?_;exact if_pos e
    ·refine(beq_eq_false_iff_ne.mpr e).symm▸?_;exact if_neg e
  ·refine(if_neg h).symm▸?_
   rw[List.filter_cons_of_neg (by simpa using h)]
theorem yZ(kd:Str->Option NameKind){bs:List (Str×Value)}{ps rest:List Str}{as:List Value}(hf:(bs.filter λp=>kd p.1==some .local)=ps.zip as)(e:ps.length=as.length)(hn:ps.Nodup):bindL kd bs (λζ=>none)=mv (ps++rest) (as.map some++rest.map λζ=>none):=by
 refine(kE e hn)▸?_
 funext y
 refine(vF ..).symm▸hf.symm▸?_
 cases (ps.zip as).reverse.lookup y <;> rfl
section
variable{A:Around}{E:Value->Heap->Prop}{h g:Heap}{env:Env}{L:Addr}{ns gs:List Str}{m:Str->Option Value}{ρ:List (Addr×Obj)}{l l':List Cell}{cs:List (Str×Addr)}
theorem sV{x:Str}{c:Addr}{pos:Pos}{v:Value}{Q:Value->Heap->Prop}(hk:env.scope.kind= .function)(C:Ec env cs)(hm:(x,c)∈cs)(hv:Ck h c v)(k:Q v h):Wp A (eval (.Name x pos) env) Q E h:=.of λgg d kk o Q' E' hQ hE=>by
 refine u9 (C.kind _ hm) λc1 c2 c3=>?_
 exact wpAny_Name (wpAny_loadName_cell (s:=⟨h,gg,d,kk,o⟩) hk c1 c3 (Gt.ex hv) (hQ _ _ _ k)) c2
theorem Er{x:Str}{c:Addr}{u:Option Value}{v:Value}{Q:Unit->Heap->Prop}(hk:env.scope.kind= .function)(C:Ec env cs)(hm:(x,c)∈cs)(F:Fx ρ g L m l h)(up:dA c (Ce u) (Ce (some v)) l l')(k:∀h',Fx ρ g L m l' h'->Q () h'):Wp A (storeName env x v) Q E h:=.of λgg d kk o Q' E' hQ hE=>by
 refine u9 (C.kind _ hm) λc1 c2 c3=>?_
 refine dm up.split λl₀ l₁ ak iO=>?_
 obtain rfl:=ak
 obtain rfl:=iO
 obtain⟨oc,e,p⟩:=F.get (a:=c) (p:=Ce u) (List.mem_append_right _ List.mem_cons_self)
 refine wpAny_storeName_cell (s:=⟨h,gg,d,kk,o⟩) hk c1 c3 ⟨oc,e,p⟩ λh' hv hs=>hQ _ _ _ (k h' ?_)
 refine aU hv λo' e' p'=>?_
 clear hv
 exact F.turn hs e' p' Ce.nt
theorem pQ{f:Addr}{aG:FuncData}{body:List Stmt}{binds:List (Str×Value)}{ps rest ns gs:List Str}{as args:List Value}{vs:List (Option Value)}{R:Result->Heap->Prop}{oc:Value}{od:Option Addr}{oZ:Array (Option Value)}{r:Nat}{cc:Addr->List (Str×Addr)}{cl:Addr->List (Addr×Option Value)}(x:Gr ρ g h l)(G:Gd g)(hA:Rm A (r+1))
  (ho:g.get? f=some ⟨oc,od,.func aG,oZ⟩)(i8:g.CodeRec aG.code aG.qualname)(bK:aG.body= .stmts body)(bB:bindArgs aG ⟨args,[]⟩=pure binds)
  (hf:(binds.filter λp=>aG.scope.names.lookup p.1==some .local)=ps.zip as)(fY:ns=ps++rest)(mj:vs=as.map some++rest.map λζ=>none)(hlen:ps.length=as.length)
  (AL:∀n,cellsFrom n aG.scope.names []=cc n)(j4:∀n,(cc n).map (λp=>(p.2,bindC (λy=>aG.scope.names.lookup y) binds (λζ=>none) p.1))=cl n)
  (g_:(ij aG ns gs&&!aG.scope.isCoroutine&&!aG.scope.isGenerator&&aG.closure.isEmpty&&(binds.all λp=>aG.scope.names.lookup p.1==some .local||(aG.scope.names.lookup p.1==some .cell&&(List.lookup p.1 (cc 0)).isSome))&&((cc 0).all λp=>aG.scope.names.lookup p.1==some .cell&&!(p.1==("__debug__":Str)))&&decide ((cc 0).map (·.1)).Nodup)=true)
  (Bs:∀n,(cc n).map (·.1)=(cc 0).map (·.1))
  (k:∀L g' h' env A1,env=callEnvC aG L f->A1=A.deeper env->Rm A1 r->Ev env L ns gs->Ec env (cc (L+1))->Sub g g'->Fx ρ g' L (mv ns vs) ((cl (L+1)).map (λp=>(p.1,Ce p.2))++l) h'->Wp A1 (execs body env) (qX R) (Lv A1 env R) h'):Cd A (.call (.ref f) ⟨args,[]⟩) R h:=by
 refine .of ?_;intro gg d kk o R' hR
 simp only[Bool.and_eq_true,Bool.not_eq_true',List.all_eq_true,Bool.or_eq_true,beq_iff_eq,decide_eq_true_eq,List.isEmpty_iff] at g_
 obtain⟨⟨⟨⟨⟨⟨h1,h2⟩,h3⟩,h4⟩,h5⟩,h6⟩,h7⟩:=g_
 have O0:=um (L:=0) (f:=0) h1
 have look:∀n (y:Str),(List.lookup y (cc n)).isSome=(List.lookup y (cc 0)).isSome:=λn y=>by
  have key:∀l:List (Str×Addr),(List.lookup y l).isSome=(l.map (·.1)).contains y:=λl=>by
   induction l with
   |nil=>rfl
   |cons q l ih=>
    obtain⟨q1,q2⟩:=q
    rw[List.lookup_cons]
    refine List.map_cons.symm▸?_
    rw[List.contains_cons]
    cases y==q1 with
    |true=>rfl
    |false=>simpa using ih
  refine(key ..).symm▸(key ..).symm▸(Bs n).symm▸?_
  rfl
 refine codeAny_call_cells (s:=⟨h,gg,d,kk,o⟩) (fd:=aG) (body:=body) (binds:=binds) hA.room (x.sub _ _ ho) rfl (G.up x.sub).lim (i8.keeps x.sub) bK bB h4 (λp hp=>?_) (λiP X=>?_) h2 h3 O0.kind
 ·rcases h5 p hp with q|⟨q1,q2⟩
  ·exact .inl q
  ·refine .inr ⟨q1,?_⟩
   show(List.lookup p.1 (cellsFrom (h.objs.size+1) aG.scope.names [])).isSome=true
   refine(AL ..).symm▸(look ..).symm▸?_;exact q2
 ·obtain⟨⟨⟨h',tk,rfl⟩,Es,Gq,ζ⟩,hU,Lj,Lk⟩:=X
  have e0:(callEnvC aG h.objs.size f).cells=cc (h.objs.size+1):=AL _
  have hU:∀n c,List.lookup n (cc (h.objs.size+1))=some c->h'.IsCell c (bindC (λy=>aG.scope.names.lookup y) binds (λζ=>none) n):=λn c e=>hU n c (e0▸e)
  have Lj:(cc (h.objs.size+1)).Pairwise λx y=>x.2≠y.2:=e0▸Lj
  have Lk:∀n c,(n,c)∈cc (h.objs.size+1)->h.objs.size<c:=λn c e=>Lk n c (e0▸e)
  have Gu:∀q∈cc (h.objs.size+1),List.lookup q.1 (cc (h.objs.size+1))=some q.2:=by
   have nd:((cc (h.objs.size+1)).map (·.1)).Nodup:=by refine(Bs ..).symm▸?_;exact h7
   have key:∀l:List (Str×Addr),(l.map (·.1)).Nodup->∀q∈l,List.lookup q.1 l=some q.2:=λl=>by
    induction l with
    |nil=>intro _ q hq;cases hq
    |cons a l ih=>
     intro nd q hq
     replace nd:=List.map_cons▸nd;rw[List.nodup_cons] at nd
     rw[List.lookup_cons]
     rcases List.mem_cons.mp hq with rfl|hq
     ·simp
     ·have:(q.1==a.1)=false:=beq_eq_false_iff_ne.mpr λe=>nd.1 (by refine e▸?_;exact List.mem_map.mpr ⟨q,hq,rfl⟩)
      simp only[this]
      exact ih nd.2 q hq
   exact key _ nd
  have HF:(cl (h.objs.size+1)).map (λp=>(p.1,Ce p.2))=(cc (h.objs.size+1)).map (λq=>(q.2,Ce (bindC (λy=>aG.scope.names.lookup y) binds (λζ=>none) q.1))):=by
   refine(j4 ..)▸List.map_map.symm▸?_;rfl
  have mem:∀p∈(cl (h.objs.size+1)).map (λp=>(p.1,Ce p.2)),∃q∈cc (h.objs.size+1),p=(q.2,Ce (bindC (λy=>aG.scope.names.lookup y) binds (λζ=>none) q.1)):=λp hp=>by
   replace hp:=HF▸hp
   refine aU (List.mem_map.mp hp) λq hq e=>?_
   exact⟨q,hq,e.symm⟩
  have HG:adr ((cl (h.objs.size+1)).map (λp=>(p.1,Ce p.2)))=(cc (h.objs.size+1)).map (·.2):=by
   refine HF.symm▸?_;unfold adr;refine List.map_map.symm▸?_;rfl
  have JX:∀b∈adr ((cl (h.objs.size+1)).map (λp=>(p.1,Ce p.2))),h.objs.size<b:=λb hb=>by
   replace hb:=HG▸hb
   refine aU (List.mem_map.mp hb) λq hq ak=>?_
   obtain rfl:=ak
   exact Lk _ _ hq
  have low:∀b∈adr l,b<h.objs.size:=λb hb=>by
   refine aP (f5 hb) λp hp=>?_
   obtain⟨ob,e,ζ⟩:=x.own.at' _ hp
   exact Heap.lt_size e
  have Ll:∀b∈adr ρ,b<h.objs.size:=λb hb=>by
   refine aU (List.mem_map.mp hb) λp hp ak=>?_
   obtain rfl:=ak
   obtain⟨ζ,sl,e⟩:=x.fr p hp
   exact Heap.lt_size e
  have Et:Sub h h':=Gq
  have Eu:=x.own.ups Et
  have gnone:∀b,h.objs.size<=b->g.get? b=none:=λb hb=>by
   cases q:g.get? b with
   |none=>rfl
   |some ob=>exact absurd (Heap.lt_size (x.sub _ _ q)) (Nat.not_lt.mpr hb)
  obtain⟨g',hs,F⟩:Nx ρ g h.objs.size (mv ns vs) ((cl (h.objs.size+1)).map (λp=>(p.1,Ce p.2))++l) h':=by
   refine Fx.grow g ?_ ⟨λp hp=>?_,?_,λp hp=>?_⟩ (x.fr.ups Et) (x.sub.trans Et) (gnone _ (Nat.le_refl _)) (λb hb=>?_) x.bH ⟨λhb=>?_,x.fr.fresh⟩ λb hb hr=>?_
   ·rw[fY,mj,<-yZ (λy=>aG.scope.names.lookup y) hf hlen (by
     have:=O0.nd
     replace this:=fY▸this
     exact(List.nodup_append.mp this).1)]
    exact Es
   ·rcases List.mem_append.mp hp with hp|hp
    ·refine aU (mem p hp) λq hq ak=>?_
     obtain rfl:=ak
     exact Gt.of (hU q.1 q.2 (Gu q hq))
    ·exact Eu.at' p hp
   ·refine aq.symm▸?_
    refine List.nodup_append.mpr ⟨?_,Eu.nd,λa ha b hb e=>?_⟩
    ·refine HG.symm▸?_
     exact List.pairwise_map.mpr Lj
    ·subst e
     exact Nat.lt_irrefl _ (Nat.lt_trans (JX a ha) (low a hb))
   ·rcases List.mem_append.mp hp with hp|hp
    ·refine aU (mem p hp) λq hq ak=>?_
     obtain rfl:=ak
     exact Ce.nt
    ·exact Eu.nt p hp
   ·replace hb:=aq▸hb
    rcases List.mem_append.mp hb with hb|hb
    ·exact gnone _ (Nat.le_of_lt (JX b hb))
    ·exact x.bo b hb
   ·replace hb:=aq▸hb
    rcases List.mem_append.mp hb with hb|hb
    ·exact Nat.lt_irrefl _ (JX _ hb)
    ·exact x.own.fresh hb
   ·replace hb:=aq▸hb
    rcases List.mem_append.mp hb with hb|hb
    ·exact Nat.lt_irrefl _ (Nat.lt_trans (JX b hb) (Ll b hr))
    ·exact x.cS b hb hr
  have O:Ev (callEnvC aG h.objs.size f) h.objs.size ns gs:=⟨O0.kind,rfl,O0.AK,O0.Gn,O0.nd,O0.lk,O0.gk⟩
  have C:Ec (callEnvC aG h.objs.size f) (cc (h.objs.size+1)):=⟨λp hp=>by
   have m0:∃q∈cc 0,q.1=p.1:=by
    have:p.1∈(cc (h.objs.size+1)).map (·.1):=List.mem_map.mpr ⟨p,hp,rfl⟩
    replace this:=(Bs ..)▸this
    refine aU (List.mem_map.mp this) λq hq e=>?_
    exact⟨q,hq,e⟩
   refine aU m0 λq hq e=>?_
   clear m0
   have:=h6 q hq
   replace this:=e▸this
   refine⟨this.1,this.2,?_⟩
   refine e0.symm▸?_;exact Gu p hp⟩
  exact(k h.objs.size g' h' _ _ rfl rfl hA.deeper O C hs F).go gg d tk o _ _ (λfl h1 k1 q=>hR _ _ _ q) (λe h1 k1 q=>Wp.go q gg d k1 o _ _ (λζ h2 k2 z=>hR _ _ _ z) (λe' h2 k2 z=>hR _ _ _ z))
end
theorem Rr:True:=by
 k_with "a"=>first|with_reducible apply Mine.At.hd|with_reducible apply Kv.hd|with_reducible apply Gs.hd|(with_reducible apply Mine.At.tl;k_extra "a")|(with_reducible apply Kv.tl;k_extra "a")|(with_reducible apply Gs.tl;k_extra "a")
 k_with "p"=>first|with_reducible apply A6.hd|(with_reducible apply A6.tl;k_extra "p")
 k_with "m"=>first|with_reducible apply List.mem_cons_self|k_extra "s"|(with_reducible apply List.mem_cons_of_mem;k_extra "m")
 k_with "u"=>first|k_extra "s"|(with_reducible apply Tp.lf;(k_extra "s");k_extra "q")|(with_reducible apply Gd.lf;(k_extra "s");k_extra "q")|(with_reducible apply Bf.lf;(k_extra "s");k_extra "q")|(with_reducible apply Wf.lf;(k_extra "s");k_extra "q")|(with_reducible apply aW.lf;(k_extra "s");k_extra "q")|(with_reducible apply qY.lf;(k_extra "s");k_extra "q")|(with_reducible apply Wf.wd;k_extra "u")|(with_reducible apply Wf.bf;k_extra "u")|(with_reducible apply Wf.gd;k_extra "u")|(with_reducible apply In.lf;(k_extra "s");k_extra "q")|(with_reducible apply Ls.lf;(k_extra "s");k_extra "q")|(with_reducible apply Dd.lf;(k_extra "s");k_extra "q")|(with_reducible apply aD.lf;(k_extra "s");k_extra "q")|(with_reducible apply bQ.lf;(k_extra "s");k_extra "q")|(with_reducible apply KeysIn.lf;(k_extra "s");k_extra "q")|(with_reducible apply Bk.lf;(k_extra "s");k_extra "q")|(with_reducible apply cG.lf;(k_extra "s");k_extra "q")|(with_reducible apply Ck.lf;(k_extra "s");k_extra "q")|(with_reducible apply Wo.lf;(k_extra "s");k_extra "q")|(with_reducible apply Rd.lf;(k_extra "s");k_extra "q")|(with_reducible apply Po.lf;(k_extra "s");k_extra "q")|(with_reducible apply Cs.lf;(k_extra "s");k_extra "q")|(with_reducible apply Ls.own;(k_extra "s");k_extra "m")|(with_reducible apply Dd.own;(k_extra "s");k_extra "m")
 k_with "o"=>first|k_extra "s"|(with_reducible apply Tp.lf;(k_extra "s");k_extra "q")
 k_with "q"=>first|k_extra "s"|with_reducible apply Sub.refl|(with_reducible apply Sub.HA;(k_extra "s");k_extra "q")|(with_reducible apply Sub.back;(k_extra "s");k_extra "q")
 k_with "g"=>(refine Fx.get (by k_extra "s") ?_;k_extra "m")
 k_with "c"=>first|with_reducible apply dA.hd|(with_reducible apply dA.tl;k_extra "c")
 k_with "t"=>(first
  |(with_reducible show Wp _ (execs _ _) _ _ _;first
   |(with_reducible apply ab λζ ζ=>?_)
   |(with_reducible apply aB ?_))
  |(with_reducible show Wp _ (exec _ _) _ _ _;first
   |(with_reducible show Wp _ (exec (.Assign _ _ _) _) _ _ _;with_reducible apply aZ ?_ (by first|k_extra "R"|(subst_vars;k_extra "R")))
   |(with_reducible apply bJ ?_)
   |(with_reducible apply ve ?_)
   |(with_reducible show Wp _ (exec (.Assign _ _ _) _) _ _ _;with_reducible apply jL ?_ (by first|k_extra "R"|(subst_vars;k_extra "R")))
   |(with_reducible show Wp _ (exec (.Expr _ _) _) _ _ _;with_reducible apply kF ?_ (by first|k_extra "R"|(subst_vars;k_extra "R")) (by first|k_extra "R"|(subst_vars;k_extra "R")))
   |(with_reducible show Wp _ (exec (.Assign _ _ _) _) _ _ _;with_reducible apply jd ?_ (by first|k_extra "R"|(subst_vars;k_extra "R")) (by first|k_extra "R"|(subst_vars;k_extra "R")))
   |(with_reducible show Wp _ (exec (.Assign _ _ _) _) _ _ _;with_reducible apply je ?_ (by first|k_extra "R"|(subst_vars;k_extra "R")) (by first|k_extra "R"|(subst_vars;k_extra "R"))))
  |(with_reducible show Wp _ (eval (.Name _ _) _) _ _ _;first
   |(with_reducible apply A9 (by k_extra "s") (by k_extra "s") (by k_extra "a") ?_)
   |(with_reducible apply Bg (by k_extra "s") (by k_extra "s") (by k_extra "u") (by k_extra "a") (by k_extra "a") ?_)
   |(with_reducible apply Ed (by k_extra "s") (by k_extra "s") (by k_extra "u") (by k_extra "a") (by k_extra "a") ?_))
  |(with_reducible show Wp _ (eval _ _) _ _ _;first
   |(with_reducible apply dT λζ=>?_)
   |(with_reducible show Wp _ (eval (.Call (.Attribute _ _ _) _ _ _) _) _ _ _;with_reducible apply dH ?_ (by k_extra "R"))
   |(with_reducible apply bw ?_ (by k_extra "R"))
   |(with_reducible apply iH ?_)
   |(with_reducible apply gI ?_)
   |(with_reducible apply gH ?_ (by k_extra "R"))
   |(with_reducible apply Hi ?_)
   |(with_reducible apply yy ?_)
   |(with_reducible apply yz ?_)
   |(with_reducible apply cK ?_)
   |(with_reducible apply sy ?_)
   |(with_reducible apply kh ?_)
   |(with_reducible apply yw ?_)
   |(with_reducible apply yx ?_)
   |(with_reducible apply cJ λζ=>?_)
   |(with_reducible show Wp _ (eval (.Attribute _ _ _) _) _ _ _;with_reducible apply yD ?_ (by k_extra "R")))
  |(with_reducible show Wp _ (PySem.isTrue _ _ _) _ _ _;first
   |(with_reducible apply c5 ?_ (by k_extra "R"))
   |(with_reducible apply kG ?_)
   |(with_reducible apply nH ?_)
   |(with_reducible apply jc ?_)
   |(with_reducible apply uh ?_)
   |(with_reducible apply jb ?_)
   |(with_reducible apply HH ?_)
   |(with_reducible apply yA ?_ (by k_extra "R"))
   |(with_reducible show Wp _ (PySem.isTrue _ _ _) _ _ _;with_reducible apply eI ?_ (by k_extra "R")))
  |(with_reducible show Wp _ (storeName _ _ _) _ _ _;first
   |(with_reducible show Wp _ (storeName _ _ _) _ _ _;with_reducible apply A_ (by k_extra "s") (by k_extra "s") (by k_extra "p") λζ ζ=>?_))
  |(with_reducible show Wp _ (call _ _) _ _ _;first
   |(with_reducible show Wp _ (call (.builtin "list.append") _) _ _ _;with_reducible apply yS (by k_extra "s") (by k_extra "c") (by lia) λζ ζ=>?_)
   |(with_reducible show Wp _ (call (.builtin "len") _) _ _ _;with_reducible apply yR (by k_extra "u") (by first|lia|with_unfolding_all exact Nat.le_of_ble_eq_true rfl) λζ=>?_)
   |(with_reducible show Wp _ (call (.type "tuple") _) _ _ _;with_reducible apply yW (by k_extra "s") (by k_extra "u") (by first|lia|with_unfolding_all exact Nat.le_of_ble_eq_true rfl) λζ ζ ζ ζ ζ ζ=>?_)
   |(with_reducible apply Br (by k_extra "u") ?_)
   |(with_reducible apply C4 λζ=>?_))
  |(with_reducible show Wp _ (subscriptTail _ _ _ _) _ _ _;first
   |(with_reducible show Wp _ (subscriptTail _ _ (.ref _) (.int _ _)) _ _ _;with_reducible apply nJ (by k_extra "o") (by decide) (by decide) (by k_extra "R") ?_ (by k_extra "R"))
   |(with_reducible show Wp _ (subscriptTail _ _ (.ref _) (.int _ _)) _ _ _;with_reducible apply ki (by k_extra "u") (by lia) (by lia) (by first|assumption|k_extra "R") ?_ (by k_extra "R")))
  |(with_reducible show Wp _ (getMethod _ _ _) _ _ _;first
   |(with_reducible show Wp _ (getMethod (.ref _) _ _) _ _ _;with_reducible apply jl (by k_extra "u") ?_)
   |(with_reducible show Wp _ (getMethod (.ref _) _ _) _ _ _;with_reducible apply yU (by k_extra "s") (by k_extra "u") (by k_extra "u") (by k_extra "a") ?_)
   |(with_reducible show Wp _ (getMethod (.ref _) _ _) _ _ _;with_reducible apply Bo (by k_extra "u") (by k_extra "u") (by k_extra "a") (by k_extra "R") ?_))
  |(with_reducible show Wp _ (getAttr _ _ _) _ _ _;first
   |(with_reducible show Wp _ (getAttr (.ref _) _ _) _ _ _;with_reducible apply Bn (by k_extra "u") (by k_extra "u") (by k_extra "a") (by k_extra "s") (by k_extra "R") ?_)
   |(with_reducible show Wp _ (getAttr (.ref _) _ _) _ _ _;with_reducible apply yM (by k_extra "u") (by k_extra "u") (by k_extra "R") (by k_extra "R") ?_))
  |(with_reducible show Wp _ (compareOp _ _ _) _ _ _;first
   |(with_reducible apply C9 ?_)
   |(with_reducible apply C_ ?_)
   |(with_reducible apply pR ?_)
   |(with_reducible apply y3 ?_)
   |(with_reducible apply yV ?_)
   |(with_reducible apply sU ?_)
   |(with_reducible apply vD ?_)
   |(with_reducible apply OJ ?_)
   |(with_reducible apply pP ?_)
   |(with_reducible apply vg ?_)
   |(with_reducible apply Ba ?_)
   |(with_reducible apply Hk ?_)
   |(with_reducible apply Hl ?_)
   |(with_reducible apply Hm ?_)
   |(with_reducible apply Hn ?_))
  |(with_reducible show Wp _ (binaryOp _ _ _) _ _ _;first
   |(with_reducible apply ui λζ=>?_)
   |(with_reducible apply nI λζ=>?_))
  |(with_reducible show Wp _ (unaryOp _ _) _ _ _;first
   |(with_reducible apply yY ?_)
   |(with_reducible apply C3 λζ=>?_))
  |(with_reducible apply az ?_ (by k_extra "R"))
  |(with_reducible apply aC ?_)
  |(with_reducible apply bu ?_)
  |(with_reducible apply uo ?_)
  |(with_reducible apply C7 ?_)
  |(with_reducible show Wp _ (newTuple _) _ _ _;with_reducible apply bh (by k_extra "s") (by with_unfolding_all exact Nat.le_of_ble_eq_true rfl) λζ ζ ζ ζ ζ ζ=>?_)
  |(with_reducible apply eY ?_ (by k_extra "R") (by k_extra "R"))
  |(with_reducible apply b_ (by k_extra "R") (by k_extra "R") ?_ (by k_extra "R"))
  |(with_reducible apply And.intro rfl ?_)
  |(with_reducible apply And.intro (by k_extra "u") ?_)
  |(with_reducible apply Bj ?_)
  |(with_reducible apply yJ ?_)
  |(with_reducible apply dU ?_ (by k_extra "R") (by k_extra "R"))
  |(with_reducible apply HI ?_)
  |(with_reducible show Wp _ (unpackItems _ _ _) _ _ _;with_reducible apply kJ (Rm.hd (by k_extra "s")) (by k_extra "s") (by k_extra "o") (by k_extra "R") λζ ζ ζ ζ=>?_)
  |(with_reducible show Wp _ (assign (.Tuple _ _ _) _ _) _ _ _;with_reducible apply eK (Rm.hd (by k_extra "s")) (by k_extra "s") (by k_extra "o") (by k_extra "R") (by k_extra "R") λζ ζ ζ ζ=>?_)
  |(with_reducible apply sE ?_)
  |(with_reducible apply cL ?_)
  |(with_reducible apply eM ?_)
  |(with_reducible apply kK ?_)
  |(with_reducible apply aY ?_)
  |(with_reducible show(_:Flow->Heap->Prop) Flow.next _;with_reducible apply Kn.go;(k_extra "s"))
  |(with_reducible show(_:Flow->Heap->Prop) (Flow.ret _) _;with_reducible apply Kn.ret;(k_extra "s"))
  ) <;> (try dsimp only)
 k_with "t"=>(first
  |(with_reducible show Wp _ (eval _ _) _ _ _;first
   |(with_reducible show Wp _ (eval (.Name _ _) _) _ _ _;with_reducible apply Bu (by k_extra "s") (by k_extra "s") (by k_extra "a") (by k_extra "u") ?_)
   |(with_reducible apply Ew ?_)
   |(with_reducible apply bV ?_)
   |(with_reducible apply HJ ?_))
  |(with_reducible show Wp _ (subscriptTail _ _ (.ref _) (.str _ _)) _ _ _;with_reducible apply uy (knd:=strKind PW _) (by k_extra "u") (strKind_is PW _ _ _) (by k_extra "a") ?_ (by k_extra "R"))
  |(with_reducible show Wp _ (newList _) _ _ _;with_reducible apply c6 (by k_extra "s") (by with_unfolding_all exact Nat.le_of_ble_eq_true rfl) λζ ζ ζ ζ ζ ζ=>?_)
  |(with_reducible show Wp _ (exec (.Raise _ _ _) _) _ _ _;(with_reducible apply uz (by k_extra "s") ?_))
  |(with_reducible show Wp _ (callWith _ (vR 67) _ _ _) _ _ _;with_reducible apply uA ?_ (by k_extra "R") (by k_extra "R"))
  |(with_reducible show Wp _ (call (vR 67) _) _ _ _;with_reducible apply uB (by k_extra "s") (by k_extra "s") (by k_extra "u") λζ ζ ζ ζ ζ=>?_)
  |(with_reducible show Wp _ (joinParts _ _) _ _ _;first
   |(with_reducible show Wp _ (joinParts _ (evalEach [] _)) _ _ _;with_reducible apply HL (by(try simp only[len_app,len_lit1,len_lit2,nU]);lia) λζ=>?_)
   |(with_reducible apply HM ?_)
   |(with_reducible apply Lm ?_))
  |(with_reducible show Exists _;first
   |(with_reducible apply Ln (by(try simp only[len_app,len_lit1,len_lit2,nU]);lia) λζ=>?_)
   |(with_reducible apply Lu (by(try simp only[len_app,len_lit1,len_lit2,nU]);lia) ?_))
  ) <;> (try dsimp only)
 k_with "w"=>first|k_extra "s"|(with_reducible apply Ps.a0;k_extra "s")|(with_reducible apply Ps.a1;k_extra "s")|(with_reducible apply Ps.a2;k_extra "s")|(with_reducible apply Ps.a3;k_extra "s")|(with_reducible apply Ps.a4;k_extra "s")|(with_reducible apply Ps.a5;k_extra "s")|(with_reducible apply Ps.a6;k_extra "s")|(with_reducible apply Ps.a7;k_extra "s")|(with_reducible apply Ps.a8;k_extra "s")|(with_reducible apply St.hd;(k_extra "s"))|(with_reducible apply St.tl;(k_extra "s");(decide +kernel);k_extra "w")
 k_with "r"=>(with_reducible apply Co.less;(k_extra "s");(first|decide|lia))
 k_with "A"=>first|with_reducible apply Pa.nil|(with_reducible apply Pa.cons (by k_extra "v") (by k_extra "A") (by k_extra "R"))
 k_with "v"=>first
  |(with_reducible show Px _ _ _ _ (.Name _ _) _;first
   |(with_reducible apply Px.local (by k_extra "s") (by k_extra "a") (by k_extra "w"))
   |(with_reducible apply Px.o3 (Px.local (by k_extra "s") (by k_extra "a") (by k_extra "w")))
   |(with_reducible apply Px.Bv (Px.local (by k_extra "s") (by k_extra "a") (by k_extra "w")) (by k_extra "u"))
   |(with_reducible apply Px.toS (Px.local (by k_extra "s") (by k_extra "a") (by k_extra "w")))
   |(with_reducible apply Px.cell (by k_extra "s") (by k_extra "a") (by k_extra "u"))
   |(with_reducible apply Px.o3 (Px.cell (by k_extra "s") (by k_extra "a") (by k_extra "u")))
   |(with_reducible apply Px.toS (Px.cell (by k_extra "s") (by k_extra "a") (by k_extra "u")))
   |(with_reducible apply Px.pS (by k_extra "s") (by k_extra "a") (by k_extra "m"))
   |(with_reducible apply Px.glob (by k_extra "s") (by k_extra "u") (by k_extra "a") (by k_extra "a"))
   |(with_reducible apply Px.o3 (Px.glob (by k_extra "s") (by k_extra "u") (by k_extra "a") (by k_extra "a"))))
  |(with_reducible show Px _ _ _ _ _ (.l _);first
   |(with_reducible apply Px.qZ (Px.local (by k_extra "s") (by k_extra "a") (by k_extra "w")) (by k_extra "u"))
   |(with_reducible apply Px.qZ (Px.cell (by k_extra "s") (by k_extra "a") (by k_extra "u")) (by k_extra "u"))
   |(with_reducible apply Px.rev (by k_extra "v") (by k_extra "v") (by lia) (by intro _ _;k_extra "R"))
   |(with_reducible apply Px.from (by k_extra "v") (by k_extra "v") (by lia) (by intro _ _;k_extra "R")))
  |with_reducible apply Px.int
  |(with_reducible apply Px.lu (by k_extra "R"))
  |with_reducible apply Px.str
  |with_reducible apply Px.bool
  |with_reducible apply Px.none_
  |(with_reducible show Px _ _ _ _ (.Subscript _ _ _) _;first
   |(with_reducible apply Px.key (by k_extra "v") (by k_extra "u") (by k_extra "a") (by intro _;k_extra "R"))
   |(with_reducible apply Px.part (by k_extra "v") (by k_extra "v") (by first|exact .inl ⟨rfl,rfl⟩|exact .inr ⟨rfl,rfl⟩) (by intro _ _;k_extra "R"))
   |(with_reducible apply Px.item (by k_extra "v") (by k_extra "u") (by k_extra "v") (by first|k_extra "s"|k_extra "R") (by decide) (by decide) (by intro _;k_extra "R"))
   |(with_reducible apply Px.o3 (Px.item (by k_extra "v") (by k_extra "u") (by k_extra "v") (by first|k_extra "s"|k_extra "R") (by decide) (by decide) (by intro _;k_extra "R")))
   |(with_reducible apply Px.Bv (Px.item (by k_extra "v") (by k_extra "u") (by k_extra "v") (by first|k_extra "s"|k_extra "R") (by decide) (by decide) (by intro _;k_extra "R")) (by k_extra "u")))
  |(with_reducible apply Px.pair (Co.nt (by k_extra "s")) (by k_extra "v") (by k_extra "v") (by k_extra "R") (by k_extra "R"))
  |(with_reducible apply Px.mul (n:=20000000) (k:=20000000) (by k_extra "v") (by k_extra "v") (by k_extra "s") (by k_extra "s") (by decide))
  |(with_reducible apply Px.add (by k_extra "v") (by k_extra "v"))
  |(with_reducible apply Px.sub (by k_extra "v") (by k_extra "v"))
  |(with_reducible apply Px.neg (by k_extra "v"))
  |(with_reducible show Px _ _ _ _ (.Call (.Name _ _) _ _ _) _;first
   |(with_reducible apply Px.abs (by k_extra "s") (by k_extra "u") (by k_extra "a") (by k_extra "v") (by k_extra "R") (by k_extra "R"))
   |(with_reducible apply Px.len (by k_extra "s") (by k_extra "u") (by k_extra "a") (by k_extra "v") (by k_extra "u") (by lia) (by k_extra "R") (by k_extra "R"))
   |(with_reducible show Px _ _ _ _ (.Call (.Name (Str.ofString "_law_worth") _) _ _ _) _;with_reducible apply Px.fn (by k_extra "s") (by k_extra "u") (by k_extra "a") (by k_extra "a") (by k_extra "R") (by k_extra "R") (by k_extra "A") (Bw (by k_extra "u") (by k_extra "u") (by k_extra "s") (by first|decide|lia) (by k_extra "r")) (by k_extra "R") (by k_extra "R"))
   |(with_reducible show Px _ _ _ _ (.Call (.Name (Str.ofString "_law_same") _) _ _ _) _;with_reducible apply Px.fn (by k_extra "s") (by k_extra "u") (by k_extra "a") (by k_extra "a") (by k_extra "R") (by k_extra "R") (by k_extra "A") (Ex (n:=67108864) (by k_extra "u") (by k_extra "r") (by k_extra "s") (by k_extra "s") (by decide)) (by k_extra "R") (by k_extra "R"))
   |(with_reducible show Px _ _ _ _ (.Call (.Name (Str.ofString "ratio") _) _ _ _) _;with_reducible apply Px.fn (by k_extra "s") (by k_extra "u") (by k_extra "a") (by k_extra "a") (by k_extra "R") (by k_extra "R") (by k_extra "A") (Bx (by k_extra "u") (by k_extra "r") (by k_extra "s") (by k_extra "s")) (by k_extra "R") (by k_extra "R"))
   |(with_reducible apply Px.eO (by k_extra "s") (by k_extra "u") (by first|decide|lia) (by k_extra "a") (by k_extra "v") (by k_extra "R") (by k_extra "R")))
  |(with_reducible show Px _ _ _ _ (.Call (.Attribute _ (Str.ofString "constant") _) _ _ _) _;first
   |(with_reducible apply Px.jm (by k_extra "s") (by k_extra "u") (by k_extra "v") (Mt.eO (by k_extra "u") (by k_extra "u") (by k_extra "a") (by k_extra "R")) (by k_extra "R") (by k_extra "R") (by k_extra "A") (y4 (by k_extra "u") (by k_extra "u") (by k_extra "r") (by k_extra "s") (by k_extra "s") (by k_extra "s")) (by k_extra "R") (by k_extra "R"))
   |(with_reducible apply Px.jm (by k_extra "s") (by k_extra "u") (by k_extra "v") (Mt.eO (by k_extra "u") (by k_extra "u") (by k_extra "a") (by k_extra "R")) (by k_extra "R") (by k_extra "R") (by k_extra "A") (y5 (by k_extra "u") (by k_extra "u") (by k_extra "r") (by k_extra "s") (by k_extra "s")) (by k_extra "R") (by k_extra "R")))
  |(with_reducible show Px _ _ _ _ (.Call (.Attribute _ (Str.ofString "op") _) _ _ _) _;with_reducible apply Px.jm (by k_extra "s") (by k_extra "u") (by k_extra "v") (Mt.fW (by k_extra "u") (by k_extra "a")) (by k_extra "R") (by k_extra "R") (by k_extra "A") (Lx (by k_extra "u") (by k_extra "r") (by k_extra "s")) (by k_extra "R") (by k_extra "R"))
  |(with_reducible show Px _ _ _ _ (.Call (.Attribute _ (Str.ofString "sort") _) _ _ _) _;with_reducible apply Px.jm (by k_extra "s") (by k_extra "u") (by k_extra "v") (Mt.fW (by k_extra "u") (by k_extra "a")) (by k_extra "R") (by k_extra "R") (by k_extra "A") (y6 (by k_extra "u") (by k_extra "r") (by k_extra "s")) (by k_extra "R") (by k_extra "R"))
  |(with_reducible show Px _ _ _ _ (.Call (.Attribute _ (Str.ofString "data") _) _ _ _) _;with_reducible apply Px.jm (by k_extra "s") (by k_extra "u") (by k_extra "v") (Mt.fW (by k_extra "u") (by k_extra "a")) (by k_extra "R") (by k_extra "R") (by k_extra "A") (Ey (by k_extra "u") (by k_extra "r") (by k_extra "s") (by k_extra "s")) (by k_extra "R") (by k_extra "R"))
  |(with_reducible show Px _ _ _ _ (.Compare _ _ _ _) _;first
   |(with_reducible apply Px.cmp (by k_extra "v") (by k_extra "v") (Kc.int (by k_extra "R")) (by k_extra "R"))
   |(with_reducible apply Px.cmp (by k_extra "v") (by k_extra "v") Kc.OK (by k_extra "R"))
   |(with_reducible apply Px.cmp (by k_extra "v") (by k_extra "v") Kc.seq (by k_extra "R"))
   |(with_reducible apply Px.cmp (by k_extra "v") (by k_extra "v") (Kc.rat (by k_extra "r")) (by k_extra "R"))
   |(with_reducible apply Px.cmp (by k_extra "v") (by k_extra "v") Kc.OL (by k_extra "R"))
   |(with_reducible apply Px.cmp (by k_extra "v") (by k_extra "v") Kc.HN (by k_extra "R"))
   |(with_reducible apply Px.cmp (by k_extra "v") (by k_extra "v") Kc.Rt (by k_extra "R"))
   |(with_reducible apply Px.cmp (by k_extra "v") (by k_extra "v") Kc.Ez (by k_extra "R")))
 k_with "n"=>first|with_reducible apply Pn.Ly|with_reducible apply Pn.Lz|(with_reducible apply Pn.and (by k_extra "b") (λζ=>by k_extra "n"))|(with_reducible apply Pn.or (by k_extra "b") (λζ=>by k_extra "n"))
 k_with "b"=>first
  |(with_reducible apply Pb.bool (by k_extra "n"))
  |(with_reducible apply Pb.cmp (by k_extra "v") (by k_extra "v") (Kc.int (by k_extra "R")) (by k_extra "R"))
  |(with_reducible apply Pb.cmp (by k_extra "v") (by k_extra "v") Kc.OK (by k_extra "R"))
  |(with_reducible apply Pb.cmp (by k_extra "v") (by k_extra "v") Kc.seq (by k_extra "R"))
  |(with_reducible apply Pb.cmp (by k_extra "v") (by k_extra "v") (Kc.rat (by k_extra "r")) (by k_extra "R"))
  |(with_reducible apply Pb.cmp (by k_extra "v") (by k_extra "v") Kc.OL (by k_extra "R"))
  |(with_reducible apply Pb.cmp (by k_extra "v") (by k_extra "v") Kc.HN (by k_extra "R"))
  |(with_reducible apply Pb.cmp (by k_extra "v") (by k_extra "v") Kc.Rt (by k_extra "R"))
  |(with_reducible apply Pb.cmp (by k_extra "v") (by k_extra "v") Kc.Ez (by k_extra "R"))
  |(with_reducible apply Pb.not (by k_extra "b"))
  |(with_reducible apply Pb.of (by k_extra "v") (by k_extra "R"))
 k_with "s"=>(first
  |(with_reducible show Wp _ (execs _ _) _ _ _;first
   |(with_reducible apply ab λζ ζ=>?_)
   |(with_reducible apply aB ?_))
  |(with_reducible show Wp _ (exec (.Assign [.Name _ _] _ _) _) _ _ _;with_reducible refine aH (by k_extra "s") (by k_extra "s") (by k_extra "a") (by k_extra "v") (λζ ζ ζ ζ ζ ζ ζ ζ=>?_) (by k_extra "R"))
  |(with_reducible show Wp _ (exec (.Return _ _) _) _ _ _;with_reducible refine bR (by k_extra "s") (by k_extra "v") (λζ ζ ζ ζ ζ ζ=>?_))
  |(with_reducible show(_:Flow->Heap->Prop) Flow.next _;with_reducible apply Kn.go;(k_extra "s"))
  |(with_reducible show(_:Flow->Heap->Prop) (Flow.ret _) _;with_reducible apply Kn.ret;(k_extra "s"))
  ) <;> (try dsimp only)
 k_with "l"=>repeat ((fail_if_success (with_reducible show Wp _ (newList _) _ _ _));(fail_if_success (with_reducible show Wp _ (setAttr _ _ _) _ _ _));(fail_if_success (with_reducible show Wp _ (eval (.Dict _ _ _) _) _ _ _));(fail_if_success (with_reducible show Wp _ (getMethod _ _ _) _ _ _));k_extra "t")
 k_with "L"=>(k_extra "l";refine gJ (by k_extra "s") (by with_unfolding_all exact Nat.le_of_ble_eq_true rfl) λζ ζ ζ=>?_;k_extra "l")
 k_with "S"=>(refine il (by k_extra "u") (by k_extra "s") (Fx.keep (by k_extra "s") _ _ (Sub.at (by k_extra "s") (by k_extra "q"))) (by k_extra "a") (by k_extra "c") (by with_unfolding_all exact Nat.le_of_ble_eq_true rfl) λζ ζ=>?_;(try dsimp only))
 k_with "y"=>first
  |with_reducible exact @Nat.le_refl (@OfNat.ofNat Nat _ (instOfNatNat _))
  |with_reducible exact @Nat.le_refl (@HSub.hSub Nat Nat Nat _ (@OfNat.ofNat Nat _ _) 1)
  |(with_reducible show _+_<=_);exact Nat.add_le_add (by k_extra "y") (by k_extra "y")
  |(with_reducible show _*_<=_);exact Nat.mul_le_mul_left _ (by k_extra "y")
  |(with_reducible show _-_<=_);exact zd (by k_extra "y")
  |(with_reducible show min _ _<=_);exact Nat.le_trans (Nat.min_le_left ..) (by k_extra "y")
  |with_reducible exact Nat.le_trans (by assumption) (by k_extra "y")
  |with_reducible exact zi (by assumption) (by k_extra "y")
  |with_reducible exact Nat.le_trans (Nat.le_of_eq (by assumption)) (by k_extra "y")
  |with_reducible exact Nat.le_trans (And.left (by assumption)) (by k_extra "y")
  |with_reducible exact Nat.le_trans (And.right (by assumption)) (by k_extra "y")
  |with_reducible exact Nat.le_refl _
 k_with "z"=>first
  |k_extra "s"
  |exact Nat.le_of_ble_eq_true rfl
  |with_reducible exact Nat.le_refl _
  |with_reducible exact Nat.le_add_right _ _
  |(with_reducible refine zl ?_;k_extra "z")
  |(with_reducible refine zm ?_;k_extra "z")
  |(with_reducible refine Nat.add_le_add_left (m:=?_) ?_ _;k_extra "z")
  |(with_reducible refine z2 (by assumption) ?_;k_extra "z")
  |(with_reducible refine z2 (Nat.le_of_eq (by assumption)) ?_;k_extra "z")
  |(with_reducible refine z2 (And.left (by assumption)) ?_;k_extra "z")
  |(with_reducible refine z2 (And.right (by assumption)) ?_;k_extra "z")
  |(with_reducible refine Nat.le_trans (by assumption) ?_;k_extra "z")
  |(with_reducible refine Nat.le_trans (Nat.le_of_eq (by assumption)) ?_;k_extra "z")
  |(with_reducible refine Nat.le_trans (And.left (by assumption)) ?_;k_extra "z")
  |(with_reducible refine Nat.le_trans (And.right (by assumption)) ?_;k_extra "z")
  |(with_reducible refine z3 ?_;k_extra "z")
  |(with_reducible refine z8 ?_;k_extra "z")
  |exact zt (by k_extra "y") rfl
 trivial
section
variable{A:Around}{h:Heap}{R:Result->Heap->Prop}
theorem y7{x y:Int}(hx:0<=x)(hy:0<=y)(h:y≠0):Int.gcd y (x.fmod y)=Int.gcd x y/\0<=x.fmod y/\(x.fmod y).toNat<y.toNat:=by
 have Ru:0<y:=by lia
 have e:x.fmod y=x % y:=Int.fmod_eq_emod_of_nonneg x hy
 refine e.symm▸?_
 have h1:=Int.emod_nonneg x h
 have h2:=Int.emod_lt_of_pos x Ru
 refine⟨?_,h1,by lia⟩
 refine(Int.gcd_comm x y).symm▸(Int.gcd_comm y (x % y)).symm▸?_
 refine aP (Int.eq_ofNat_of_zero_le hx) λm ak=>?_
 obtain rfl:=ak
 refine aP (Int.eq_ofNat_of_zero_le hy) λn ak=>?_
 obtain rfl:=ak
 refine(Int.natCast_emod ..)▸(Int.gcd_natCast_natCast ..).symm▸(Int.gcd_natCast_natCast ..).symm▸(Nat.gcd_rec ..)▸(Nat.gcd_comm ..).symm▸?_
 rfl
theorem By(a b:Int):Int.gcd (if a<0 then -a else a) (if b<0 then -b else b)=Int.gcd a b:=by
 split <;> split <;> simp[Int.gcd_neg,Int.neg_gcd]
theorem HO{a b:Int}{ta tb:Tok}(hA:Rm A 1)(G:Gd h)(k:∀t h',Step [] [] h [] h'->R (.ok (.ret (.int (Int.gcd a b) t))) h'):Cd A (.call (.ref 77) ⟨[.int a ta,.int b tb],[]⟩) R h:=by
 refine aw (ps:=[U "a",U "b"]) (rest:=[]) (ns:=[U "a",U "b"]) (gs:=[U "abs"]) (vs:=[some (.int a ta),some (.int b tb)]) (r:=0) (Gr.nil h) G hA (yG G) (yH G) rfl rfl rfl rfl rfl (by decide +kernel) λL g1 h1 env A1 hE bS hr O S F=>?_
 refine au ?_
 k_extra "T"
 refine Bh (I:=λn h2=>∃g2 x y t u,n=y.toNat/\Fx [] g2 L (mv [U "a",U "b"] [some (.int x t),some (.int y u)]) [] h2/\Sub h g2/\0<=x/\0<=y/\Int.gcd x y=Int.gcd a b) ?_ _ ⟨_,_,_,_,_,rfl,by assumption,by k_extra "q",?_,?_,By a b⟩
 ·rintro n h2 ⟨g2,x,y,t,u,rfl,F2,S2,hx,hy,hg⟩
  k_extra "T"
  split
  ·rename_i ip
   have JY:y≠0:=by simpa using ip
   refine u9 (y7 hx hy JY) λq1 q2 q3=>?_
   k_extra "T"
   refine uj JY λζ=>?_
   k_extra "T"
   exact⟨_,q3,_,_,_,_,_,rfl,by assumption,by k_extra "q",hy,q2,q1.trans hg⟩
  ·rename_i ip
   have JY:y=0:=by simpa using ip
   subst JY
   k_extra "T"
   refine ah ?_
   have:x=Int.gcd a b:=by refine hg▸(Int.gcd_zero_right ..).symm▸?_;lia
   refine this.symm▸?_
   exact k _ _ ((Gr.nil h).leave S2 F2)
 ·split <;> lia
 ·split <;> lia
noncomputable def rg(n d:Int):Int:=if d<0 then -(Int.gcd n d:Int) else Int.gcd n d
noncomputable def cm(n d:Int):Int:=n.fdiv (rg n d)
noncomputable def bU(n d:Int):Int:=d.fdiv (rg n d)
theorem iq(a:Int){b:Int}(hb:b≠0):(Int.gcd a b:Int)≠0:=λh=>hb (by
 have:Int.gcd a b=0:=by exact_mod_cast h
 exact(Int.gcd_eq_zero_iff.mp this).2)
theorem nV(a:Int){b:Int}{n:Nat}(hb:b≠0)(hB:Bt n b):Bt n (Int.gcd a b:Int):=
 hB.of_le (by refine(Int.natAbs_natCast ..).symm▸?_;exact Nat.le_of_dvd (Int.natAbs_pos.mpr hb) (Nat.gcd_dvd_right _ _))
theorem iQ{a b:Int}{ta tb:Tok}(hA:Rm A 2)(G:Gd h)(hb:b≠0)(hB:Bt 9000 b)(k:∀r t u h',Step [] [] h [] h'->Tp h' r [.int (cm a b) t,.int (bU a b) u]->R (.ok (.ret (.ref r))) h'):Cd A (.call (.ref 84) ⟨[.int a ta,.int b tb],[]⟩) R h:=by
 refine aw (ps:=[U "top",U "bottom"]) (rest:=[U "common"]) (ns:=[U "top",U "bottom",U "common"]) (gs:=[U "gcd_of"]) (vs:=[some (.int a ta),some (.int b tb),none]) (r:=1) (Gr.nil h) G hA (Bc G) (Bd G) rfl rfl rfl rfl rfl (by decide +kernel) λL g1 h1 env A1 hE bS hr O S F=>?_
 refine au ?_
 k_extra "T"
 refine bL (by simpa using hb) ?_
 k_extra "T"
 refine Wp.call (HO (hr.less (by decide)) (by k_extra "u") λt h2 s=>?_)
 obtain⟨g3,S3,F3⟩:=Fx.aJ (by k_extra "s") s
 try dsimp only
 k_extra "T"
 by_cases hn:b<0
 ·rw[if_pos (by simpa using hn)]
  have e2:rg a b= -(Int.gcd a b:Int):=if_pos hn
  k_extra "T"
  refine kH (n:=9000) (by have:=iq a hb;lia) (nV a hb hB).neg (by decide) λζ=>?_
  k_extra "T"
  refine kH (n:=9000) (by have:=iq a hb;lia) (nV a hb hB).neg (by decide) λζ=>?_
  k_extra "T"
  exact ah (k _ _ _ _ ((Gr.nil h).done (by k_extra "s") (by k_extra "q")) (by rw[cm,bU,e2];k_extra "o"))
 ·rw[if_neg (by simpa using hn)]
  have e2:rg a b=(Int.gcd a b:Int):=if_neg hn
  k_extra "T"
  refine kH (n:=9000) (by have:=iq a hb;k_extra "z") (nV a hb hB) (by decide) λζ=>?_
  k_extra "T"
  refine kH (n:=9000) (by have:=iq a hb;k_extra "z") (nV a hb hB) (by decide) λζ=>?_
  k_extra "T"
  exact ah (k _ _ _ _ ((Gr.nil h).done (by k_extra "s") (by k_extra "q")) (by rw[cm,bU,e2];k_extra "o"))
theorem HP{a b:Int}{ta tb:Tok}{p:Addr}(hA:Rm A 1)(G:Gd h)(hp:Tp h p [.int a ta,.int b tb])(k:∀r t u h',Step [] [] h [] h'->Tp h' r [.int (-a) t,.int b u]->R (.ok (.ret (.ref r))) h'):Cd A (.call (.ref 91) ⟨[.ref p],[]⟩) R h:=by
 refine aw (ps:=[U "a"]) (rest:=[]) (ns:=[U "a"]) (gs:=[]) (vs:=[some (.ref p)]) (r:=0) (Gr.nil h) G hA (Hp G) (Hq G) rfl rfl rfl rfl rfl (by decide +kernel) λL g1 h1 env A1 hE bS hr O S F=>?_
 refine au ?_
 k_extra "T"
 exact ah (k _ _ _ _ ((Gr.nil h).done (by k_extra "s") (by k_extra "q")) (by k_extra "o"))
theorem sW{a b:Int}{ta tb:Tok}{p:Addr}(hA:Rm A 1)(G:Gd h)(hp:Tp h p [.int a ta,.int b tb])(k:∀h',Step [] [] h [] h'->R (.ok (.ret (.bool (b==1)))) h'):Cd A (.call (.ref 112) ⟨[.ref p],[]⟩) R h:=by
 refine aw (ps:=[U "a"]) (rest:=[]) (ns:=[U "a"]) (gs:=[]) (vs:=[some (.ref p)]) (r:=0) (Gr.nil h) G hA (sF G) (sG G) rfl rfl rfl rfl rfl (by decide +kernel) λL g1 h1 env A1 hE bS hr O S F=>?_
 refine au ?_
 k_extra "T"
 exact ah (k _ ((Gr.nil h).done (by k_extra "s") (by k_extra "q")))
theorem Dc{a b c d:Int}{ta tb tc td:Tok}{p q:Addr}(hA:Rm A 3)(G:Gd h)(hp:Tp h p [.int a ta,.int b tb])(hq:Tp h q [.int c tc,.int d td])(hc:c≠0)(hb:b≠0)(ba:Bt 4000 a)(bb:Bt 4000 b)(bc:Bt 4000 c)(bd:Bt 4000 d)(k:∀r t u h',Step [] [] h [] h'->Tp h' r [.int (cm (a*d) (b*c)) t,.int (bU (a*d) (b*c)) u]->R (.ok (.ret (.ref r))) h'):Cd A (.call (.ref 105) ⟨[.ref p,.ref q],[]⟩) R h:=by
 refine aw (ps:=[U "a",U "b"]) (rest:=[]) (ns:=[U "a",U "b"]) (gs:=[U "ratio"]) (vs:=[some (.ref p),some (.ref q)]) (r:=2) (Gr.nil h) G hA (Hu G) (Hv G) rfl rfl rfl rfl rfl (by decide +kernel) λL g1 h1 env A1 hE bS hr O S F=>?_
 refine au ?_
 k_extra "T"
 refine bL (by simpa using hc) ?_
 k_extra "T"
 refine cT ba bd (by decide) λζ=>?_
 k_extra "T"
 refine cT bb bc (by decide) λζ=>?_
 k_extra "T"
 refine Wp.call (iQ hr (by k_extra "u") (Int.mul_ne_zero hb hc) ((bb.mul bc).mono (by decide)) λr t u h2 s q=>?_)
 obtain⟨g3,S3,F3⟩:=Fx.aJ (by k_extra "s") s
 try dsimp only
 k_extra "T"
 exact ah (k _ _ _ _ ((Gr.nil h).done F3 (by k_extra "q")) q)
noncomputable def mu(a b c d:Int):Int:=if b=1/\d=1 then a*c else cm (a*c) (b*d)
noncomputable def jo(a b c d:Int):Int:=if b=1/\d=1 then 1 else bU (a*c) (b*d)
theorem De{a b c d:Int}{ta tb tc td:Tok}{p q:Addr}(hA:Rm A 3)(G:Gd h)(hp:Tp h p [.int a ta,.int b tb])(hq:Tp h q [.int c tc,.int d td])(hb:b≠0)(hd:d≠0)(ba:Bt 4000 a)(bb:Bt 4000 b)(bc:Bt 4000 c)(bd:Bt 4000 d)(k:∀r t u h',Step [] [] h [] h'->Tp h' r [.int (mu a b c d) t,.int (jo a b c d) u]->R (.ok (.ret (.ref r))) h'):Cd A (.call (.ref 98) ⟨[.ref p,.ref q],[]⟩) R h:=by
 refine aw (ps:=[U "a",U "b"]) (rest:=[]) (ns:=[U "a",U "b"]) (gs:=[U "ratio"]) (vs:=[some (.ref p),some (.ref q)]) (r:=2) (Gr.nil h) G hA (Hr G) (Hs G) rfl rfl rfl rfl rfl (by decide +kernel) λL g1 h1 env A1 hE bS hr O S F=>?_
 refine au ?_
 refine ve ?_
 k_extra "T"
 have fin:∀g2 h2 m,Fx [] g2 L m [] h2->Sub h g2->∀r t u,Tp h2 r [.int (cm (a*c) (b*d)) t,.int (bU (a*c) (b*d)) u]->¬(b=1/\d=1)->R (.ok (.ret (.ref r))) h2:=λg2 h2 m F2 S2 r t u q n=>
  k _ _ _ _ ((Gr.nil h).done F2 S2) (by rw[mu,jo,if_neg n,if_neg n];exact q)
 by_cases e1:b=d
 ·refine eN (by simpa using e1) ?_
  k_extra "T"
  by_cases e2:d=1
  ·refine eN (by simpa using e2) ?_
   k_extra "T"
   refine cT ba bc (by decide) λζ=>?_
   k_extra "T"
   exact ah (k _ _ _ _ ((Gr.nil h).done (by k_extra "s") (by k_extra "q")) (by rw[mu,jo,if_pos ⟨e1.trans e2,e2⟩,if_pos ⟨e1.trans e2,e2⟩];k_extra "o"))
  ·refine bL (by simpa using e2) ?_
   k_extra "T"
   refine cT ba bc (by decide) λζ=>?_
   k_extra "T"
   refine cT bb bd (by decide) λζ=>?_
   k_extra "T"
   refine Wp.call (iQ hr (by k_extra "u") (Int.mul_ne_zero hb hd) ((bb.mul bd).mono (by decide)) λr t u h2 s q=>?_)
   obtain⟨g3,S3,F3⟩:=Fx.aJ (by k_extra "s") s
   try dsimp only
   k_extra "T"
   exact ah (fin _ _ _ F3 (by k_extra "q") _ _ _ q (λq=>e2 q.2))
 ·refine bL (by simpa using e1) ?_
  k_extra "T"
  refine cT ba bc (by decide) λζ=>?_
  k_extra "T"
  refine cT bb bd (by decide) λζ=>?_
  k_extra "T"
  refine Wp.call (iQ hr (by k_extra "u") (Int.mul_ne_zero hb hd) ((bb.mul bd).mono (by decide)) λr t u h2 s q=>?_)
  obtain⟨g3,S3,F3⟩:=Fx.aJ (by k_extra "s") s
  try dsimp only
  k_extra "T"
  exact ah (fin _ _ _ F3 (by k_extra "q") _ _ _ q (λq=>e1 (q.1.trans q.2.symm)))
end
theorem Df(n:Int){d:Int}(hd:d≠0):rg n d≠0:=by
 unfold rg
 have:=iq n hd
 split <;> lia
theorem y8(n d:Int):rg n d ∣ n/\rg n d ∣ d:=by
 unfold rg
 split
 ·exact⟨Int.neg_dvd.mpr (Int.gcd_dvd_left ..),Int.neg_dvd.mpr (Int.gcd_dvd_right ..)⟩
 ·exact⟨Int.gcd_dvd_left ..,Int.gcd_dvd_right ..⟩
theorem ly(n:Int){d:Int}(hd:d≠0):cm n d*rg n d=n:=Int.fdiv_mul_cancel (y8 n d).1
theorem eP(n:Int){d:Int}(hd:d≠0):bU n d*rg n d=d:=Int.fdiv_mul_cancel (y8 n d).2
theorem dK(n:Int){d:Int}(hd:d≠0):0<bU n d:=by
 have h:=eP n hd
 have hg:(0:Int)<Int.gcd n d:=by have:=iq n hd;lia
 unfold rg at h
 by_cases hn:d<0
 ·replace h:=(if_pos hn)▸h
  refine Int.lt_of_not_ge λhc=>?_
  have:0<=bU n d* -(Int.gcd n d:Int):=Int.mul_nonneg_of_nonpos_of_nonpos hc (by lia)
  lia
 ·replace h:=(if_neg hn)▸h
  refine Int.lt_of_not_ge λhc=>?_
  have:bU n d*(Int.gcd n d:Int)<=0:=Int.mul_nonpos_of_nonpos_of_nonneg hc (by lia)
  lia
theorem vG(n d:Int):(rg n d).natAbs=Int.gcd n d:=by unfold rg;split <;> simp
theorem EA(n:Int){d:Int}(hd:d≠0):Int.gcd (cm n d) (bU n d)=1:=by
 have h1:=ly n hd
 have h2:=eP n hd
 have h3:Int.gcd (cm n d*rg n d) (bU n d*rg n d)=Int.gcd (cm n d) (bU n d)*(rg n d).natAbs:=Int.gcd_mul_right ..
 replace h3:=(vG ..)▸h2▸h1▸h3
 have hg:0<Int.gcd n d:=by have:=iq n hd;lia
 have:Int.gcd (cm n d) (bU n d)*Int.gcd n d=1*Int.gcd n d:=by lia
 exact Nat.eq_of_mul_eq_mul_right hg this
theorem hV(a:Int){g:Int}(hg:g≠0):a.natAbs<=(a*g).natAbs:=by
 refine(Int.natAbs_mul ..).symm▸?_
 exact Nat.le_mul_of_pos_right _ (Int.natAbs_pos.mpr hg)
theorem uC{k:Nat}{n d:Int}(hd:d≠0)(h:Bt k n):Bt k (cm n d):=h.of_le (by have:=hV (cm n d) (Df n hd);rwa [ly n hd] at this)
theorem uD{k:Nat}{n d:Int}(hd:d≠0)(h:Bt k d):Bt k (bU n d):=h.of_le (by have:=hV (bU n d) (Df n hd);rwa [eP n hd] at this)
def bx(a b c d:Int):Prop:=a*d=c*b
theorem c7(n:Int){d:Int}(hd:d≠0):bx (cm n d) (bU n d) n d:=by
 unfold bx
 have h1:=ly n hd
 have h2:=eP n hd
 calc cm n d*d=cm n d*(bU n d*rg n d):=by rw[h2]
  _=(cm n d*rg n d)*bU n d:=by rw[Int.mul_comm (bU n d),Int.mul_assoc]
  _=n*bU n d:=by rw[h1]
theorem uE{a b d:Int}(h:b ∣ a*d)(g:Int.gcd a b=1):b ∣ d:=by
 have h1:b.natAbs ∣ a.natAbs*d.natAbs:=by refine(Int.natAbs_mul ..)▸?_;exact Int.natAbs_dvd_natAbs.mpr h
 have h2:Nat.Coprime b.natAbs a.natAbs:=by rw[Nat.coprime_comm];exact g
 exact Int.natAbs_dvd_natAbs.mp (h2.dvd_of_dvd_mul_left h1)
theorem ir{a b c d:Int}(hb:0<b)(hd:0<d)(h1:Int.gcd a b=1)(h2:Int.gcd c d=1)(h:bx a b c d):a=c/\b=d:=by
 unfold bx at h
 have k1:b ∣ d:=by
  have:b ∣ a*d:=h▸Int.dvd_mul_left ..
  exact uE this h1
 have k2:d ∣ b:=by
  have:d ∣ c*b:=h▸Int.dvd_mul_left ..
  exact uE this h2
 have e:b=d:=Int.dvd_antisymm (by lia) (by lia) k1 k2
 subst e
 exact⟨Int.eq_of_mul_eq_mul_right (by lia) h,rfl⟩
theorem cA{a b c d e f:Int}(hd:d≠0)(h1:bx a b c d)(h2:bx c d e f):bx a b e f:=by
 unfold bx at*
 refine Int.eq_of_mul_eq_mul_right hd ?_
 calc a*f*d=(a*d)*f:=by rw[Int.mul_assoc,Int.mul_comm f,<-Int.mul_assoc]
  _=(c*b)*f:=by rw[h1]
  _=(c*f)*b:=by rw[Int.mul_assoc,Int.mul_comm b,<-Int.mul_assoc]
  _=(e*d)*b:=by rw[h2]
  _=e*b*d:=by rw[Int.mul_assoc,Int.mul_comm d,<-Int.mul_assoc]
theorem jq{a b c d:Int}(h:bx a b c d):bx c d a b:=by unfold bx at*;exact h.symm
section
inductive Go(ρ:List (Addr×Obj))(g h:Heap)(l:List Cell):Prop
 |mk (g2:Heap) (s:Sub g g2) (x:Gr ρ g2 h l)
theorem Gr.out{ρ:List (Addr×Obj)}{g g' h h':Heap}{L:Addr}{m:Str->Option Value}{l l':List Cell}(x:Gr ρ g h l)(F:Fx ρ g' L m l' h')(S:Sub g g'):Go ρ g' h' l':=by
 have key:∀b o,h'.get? b=some o->b∉adr l'->b∉adr ρ->(hideAll h' (adr l'++adr ρ)).get? b=some o:=λb o e h2 h3=>hideAll_get _ e λq=>(List.mem_append.mp q).elim h2 h3
 refine⟨hideAll h' (adr l'++adr ρ),λb o e=>key b o (F.keep b o e) (λq=>?_) λq=>?_,F.own,λb o e=>of_hideAll _ e,λb hb=>hideAll_none _ (List.mem_append_left _ hb),λb hb=>hideAll_none _ (List.mem_append_right _ hb),F.cS,F.fr,key⟩
 ·replace e:=(F.bo b q)▸e;cases e
 ·replace e:=(F.bH b q)▸e;cases e
variable{A:Around}{h g:Heap}{R:Result->Heap->Prop}{k:dg}{B:List Row}{ops args sorts ae:List Value}{xs:List (Row×Addr×Value)}
theorem nW{ρ:List (Addr×Obj)}{op:Str}{is:List Int}{s:Int}{d:Int ⊕ Int×Int}{top ts:Tok}{va vd:Value}(x:Gr ρ g h (Bl k ops args sorts ae xs))(G:Gd g)(I:In w.params g k.self 638 k.al)(At:dS k)(hb:Bk k B ops args sorts ae xs g)(hA:Rm A 1)(hz:B.length<=5000)
  (ok:PyData.strOk op=true)(ha:bQ g va is)(hd:aD g vd d)
  (K:∀(i:Nat) t B' av ai af ag aO h' g2,Step ρ (Bl k ops args sorts ae xs) h (Bl k av ai af ag aO) h'->Gr ρ g2 h' (Bl k av ai af ag aO)->Sub g g2->Bk k B' av ai af ag aO g2->Mk B (op,is,s,d) i B'->R (.ok (.ret (.int i t))) h'):
  Cd A (.call (.ref 259) ⟨[.ref k.self,.str op top,va,.int s ts,vd],[]⟩) R h:=by
 refine aw (ps:=[U "self",U "op",U "args",U "sort",U "data"]) (rest:=[U "key",U "found"]) (ns:=[U "self",U "op",U "args",U "sort",U "data",U "key",U "found"]) (gs:=[U "len"]) (vs:=[some (.ref k.self),some (.str op top),some va,some (.int s ts),some vd,none,none]) (r:=0) x G hA (pD G) (pE G) rfl rfl rfl rfl rfl (by decide +kernel) λL g1 h1 env A1 hE bS hr O S F=>?_
 have b:=hb
 obtain⟨a1,a2,a3,a4,a5,a6,a7⟩:=id At
 unfold Bl at F
 refine au ?_
 k_extra "T"
 refine Bq (by assumption) (by k_extra "m") ?_
 k_extra "T"
 have hk:∀g' a t u,Tp g' a [.str op t,va,.int s u,vd]->Sub g1 g'->cG g' (op,is,s,d) a:=λg' a t u q z=>⟨t,va,u,vd,q,(ha.yT S).yT z,(hd.yT S).yT z⟩
 have hu:A1.units+30<cLine:=by have:=hr.un;show A1.units+30<9900;lia
 have ks:=hb.keys
 have hY:=b.size
 have hl:=b.rows.len
 have Rv:=hk _ _ _ _ (by assumption) (by k_extra "q")
 refine Ek hu a6 (by assumption) (by k_extra "m") (by k_extra "u") b.nd (by k_extra "u") ok ?_
 cases q:atKey xs (op,is,s,d) with
 |some p=>
  refine aP (sS q) λj hj=>?_
  refine aP (b.vals j _ _ _ hj) λt e=>?_
  refine(show((Option.map (λx:Addr×Value=>x.snd) (some p)).getD _:Value)=p.2 from rfl).symm▸e.symm▸?_
  k_extra "T"
  refine bL (by simp;lia) ?_
  k_extra "T"
  obtain⟨g9,S9,y⟩:=Gr.out x (by k_extra "s") (by k_extra "q")
  refine ah (K (j+1) t B ops args sorts ae xs _ g9 (x.done (by k_extra "s") (by k_extra "q")) y (by k_extra "q") (by k_extra "u") (.inl ⟨rfl,?_,by k_extra "z"⟩))
  refine b.same▸?_
  simp[hj]
 |none=>
  have hn:=sT q
  refine(show((Option.map (λx:Addr×Value=>x.snd) (none:Option (Addr×Value))).getD (Value.int 0 _):Value)=Value.int 0 _ from rfl).symm▸?_
  k_extra "T"
  refine eN (by decide:((0:Int)==0)=true) ?_
  k_extra "T"
  refine Lh (r:=(op,is,s,d)) (by k_extra "s") (by k_extra "c") hu (by k_extra "u") b.nd (by k_extra "u") ok (by lia) q λh2 F2=>?_
  k_extra "T"
  rw[hl.1] at F2 ⊢
  k_extra "T"
  obtain⟨g9,S9,y⟩:=Gr.out x (by k_extra "s") (by k_extra "q")
  refine ah (K B.length _ _ _ _ _ _ _ _ g9 (x.done (by k_extra "s") (by k_extra "q")) y (by k_extra "q") (Bk.snoc (by k_extra "u") ⟨⟨_,rfl⟩,by k_extra "u",⟨_,rfl⟩,by k_extra "u"⟩ (by k_extra "u") ok hn) (.inr ⟨?_,rfl,rfl⟩))
  refine b.same▸?_
  exact hn
theorem fo{op:Str}{is:List Int}{s:Int}{d:Int ⊕ Int×Int}{top ts:Tok}{va vd:Value}(x:Gr [] g h (Bl k ops args sorts ae xs))(G:Gd g)(I:In w.params g k.self 638 k.al)(At:dS k)(b:Bk k B ops args sorts ae xs h)(hA:Rm A 1)(hz:B.length<=5000)
  (ok:PyData.strOk op=true)(ha:bQ h va is)(hd:aD h vd d)
  (K:∀(i:Nat) t B' av ai af ag aO h',Step [] (Bl k ops args sorts ae xs) h (Bl k av ai af ag aO) h'->Bk k B' av ai af ag aO h'->Mk B (op,is,s,d) i B'->R (.ok (.ret (.int i t))) h'):
  Cd A (.call (.ref 259) ⟨[.ref k.self,.str op top,va,.int s ts,vd],[]⟩) R h:=
 nW x G I At (b.up x.aj) hA hz ok (ha.up x.aj) (hd.up x.aj) λi t B' o a s' d' aO h' g2 st y ζ b' mk=>K i t B' o a s' d' aO h' st (b'.lf y.sub) mk
end
section
variable{A:Around}{h g:Heap}{R:Result->Heap->Prop}{k:dg}{B:List Row}{ops args sorts ae:List Value}{xs:List (Row×Addr×Value)}
theorem pT{i:Nat}{t:Tok}{v:Value}(hA:Rm A 1)(G:Gd h)(I:In w.params h k.self 638 k.al)(At:dS k)(hl:Ls h k.ops ops)(e:ops[i]? =some v)(hi:i<=100000)(K:∀h',Step [] [] h [] h'->R (.ok (.ret v)) h'):Cd A (.call (.ref 217) ⟨[.ref k.self,.int (i:Int) t],[]⟩) R h:=by
 refine aw (ps:=[U "self",U "t"]) (rest:=[]) (ns:=[U "self",U "t"]) (gs:=[]) (vs:=[some (.ref k.self),some (.int (i:Int) t)]) (r:=0) (Gr.nil h) G hA (vm G) (vn G) rfl rfl rfl rfl rfl (by decide +kernel) λL g1 h1 env A1 hE bS hr O S F=>?_
 obtain⟨a1,a2,a3,a4,a5,a6,a7⟩:=id At
 have e':ops[(i:Int).toNat]? =some v:=by simpa using e
 refine au ?_
 k_extra "T"
 exact ah (K _ ((Gr.nil h).done (by k_extra "s") (by k_extra "q")))
theorem Bz{i:Nat}{t:Tok}{v:Value}(hA:Rm A 1)(G:Gd h)(I:In w.params h k.self 638 k.al)(At:dS k)(hl:Ls h k.args args)(e:args[i]? =some v)(hi:i<=100000)(K:∀h',Step [] [] h [] h'->R (.ok (.ret v)) h'):Cd A (.call (.ref 224) ⟨[.ref k.self,.int (i:Int) t],[]⟩) R h:=by
 refine aw (ps:=[U "self",U "t"]) (rest:=[]) (ns:=[U "self",U "t"]) (gs:=[]) (vs:=[some (.ref k.self),some (.int (i:Int) t)]) (r:=0) (Gr.nil h) G hA (o_ G) (pe G) rfl rfl rfl rfl rfl (by decide +kernel) λL g1 h1 env A1 hE bS hr O S F=>?_
 obtain⟨a1,a2,a3,a4,a5,a6,a7⟩:=id At
 have e':args[(i:Int).toNat]? =some v:=by simpa using e
 refine au ?_
 k_extra "T"
 exact ah (K _ ((Gr.nil h).done (by k_extra "s") (by k_extra "q")))
theorem iR{i:Nat}{t:Tok}{v:Value}(hA:Rm A 1)(G:Gd h)(I:In w.params h k.self 638 k.al)(At:dS k)(hl:Ls h k.sorts sorts)(e:sorts[i]? =some v)(hi:i<=100000)(K:∀h',Step [] [] h [] h'->R (.ok (.ret v)) h'):Cd A (.call (.ref 231) ⟨[.ref k.self,.int (i:Int) t],[]⟩) R h:=by
 refine aw (ps:=[U "self",U "t"]) (rest:=[]) (ns:=[U "self",U "t"]) (gs:=[]) (vs:=[some (.ref k.self),some (.int (i:Int) t)]) (r:=0) (Gr.nil h) G hA (pg G) (ph G) rfl rfl rfl rfl rfl (by decide +kernel) λL g1 h1 env A1 hE bS hr O S F=>?_
 obtain⟨a1,a2,a3,a4,a5,a6,a7⟩:=id At
 have e':sorts[(i:Int).toNat]? =some v:=by simpa using e
 refine au ?_
 k_extra "T"
 exact ah (K _ ((Gr.nil h).done (by k_extra "s") (by k_extra "q")))
theorem iS{i:Nat}{t:Tok}{v:Value}(hA:Rm A 1)(G:Gd h)(I:In w.params h k.self 638 k.al)(At:dS k)(hl:Ls h k.ae ae)(e:ae[i]? =some v)(hi:i<=100000)(K:∀h',Step [] [] h [] h'->R (.ok (.ret v)) h'):Cd A (.call (.ref 238) ⟨[.ref k.self,.int (i:Int) t],[]⟩) R h:=by
 refine aw (ps:=[U "self",U "t"]) (rest:=[]) (ns:=[U "self",U "t"]) (gs:=[]) (vs:=[some (.ref k.self),some (.int (i:Int) t)]) (r:=0) (Gr.nil h) G hA (pk G) (pw G) rfl rfl rfl rfl rfl (by decide +kernel) λL g1 h1 env A1 hE bS hr O S F=>?_
 obtain⟨a1,a2,a3,a4,a5,a6,a7⟩:=id At
 have e':ae[(i:Int).toNat]? =some v:=by simpa using e
 refine au ?_
 k_extra "T"
 exact ah (K _ ((Gr.nil h).done (by k_extra "s") (by k_extra "q")))
theorem eQ{s:Int}{t:Tok}(hA:Rm A 1)(G:Gd h)(K:∀h',Step [] [] h [] h'->R (.ok (.ret (.bool (s==1||s==2)))) h'):Cd A (.call (.ref 154) ⟨[.ref k.self,.int s t],[]⟩) R h:=by
 refine aw (ps:=[U "self",U "s"]) (rest:=[]) (ns:=[U "self",U "s"]) (gs:=[U "INT",U "REAL"]) (vs:=[some (.ref k.self),some (.int s t)]) (r:=0) (Gr.nil h) G hA (fG G) (fH G) rfl rfl rfl rfl rfl (by decide +kernel) λL g1 h1 env A1 hE bS hr O S F=>?_
 refine au ?_
 k_extra "T"
 have fin:∀g2 h2 m,Fx [] g2 L m [] h2->Sub h g2->∀b,b=(s==1||s==2)->R (.ok (.ret (.bool b))) h2:=λg2 h2 m F2 S2 b e=>by
  refine e.symm▸?_;exact K _ ((Gr.nil h).done F2 S2)
 by_cases e:s=1
 ·refine eN (by simpa using e) ?_
  k_extra "T"
  exact ah (fin _ _ _ (by k_extra "s") (by k_extra "q") _ (by simp[e]))
 ·refine bL (by simpa using e) ?_
  k_extra "T"
  exact ah (fin _ _ _ (by k_extra "s") (by k_extra "q") _ (by simp[e]))
section
variable{R:Result->Heap->Prop}
theorem jM{s n d:Int}{ts:Tok}{vd:Value}(x:Gr [] g h (Bl k ops args sorts ae xs))(G:Gd g)(I:In w.params g k.self 638 k.al)(At:dS k)(b:Bk k B ops args sorts ae xs h)(hA:Rm A 2)(hz:B.length<=5000)
  (hd:aD h vd (.inr (n,d)))(hs:s=1\/s=2)(EB:s=1->d=1)
  (K:∀(i:Nat) t B' av ai af ag aO h',Step [] (Bl k ops args sorts ae xs) h (Bl k av ai af ag aO) h'->Bk k B' av ai af ag aO h'->Mk B (U "num",[],s,.inr (n,d)) i B'->R (.ok (.ret (.int i t))) h'):
  Cd A (.call (.ref 446) ⟨[.ref k.self,vd,.int s ts],[]⟩) R h:=by
 refine aw (ps:=[U "self",U "value",U "s"]) (rest:=[]) (ns:=[U "self",U "value",U "s"]) (gs:=[U "INT",U "is_whole",U "SortFault"]) (vs:=[some (.ref k.self),some vd,some (.int s ts)]) (r:=1) x G hA (jf G) (jg G) rfl rfl rfl rfl rfl (by decide +kernel) λL g1 h1 env A1 hE bS hr O S F=>?_
 have hb:Bk k B ops args sorts ae xs g:=b.up x.aj
 have hd:aD g vd (.inr (n,d)):=hd.up x.aj
 obtain⟨a1,a2,a3,a4,a5,a6,a7⟩:=id At
 refine au ?_
 k_extra "T"
 refine Wp.call (eQ (hr.less (by decide)) (by k_extra "u") λh2 st=>?_)
 obtain⟨g3,S3,F3⟩:=Fx.aJ (by k_extra "s") st
 try dsimp only
 k_extra "T"
 refine bL (by rcases hs with rfl|rfl <;> simp) ?_
 k_extra "T"
 refine jH (id hd) λp tn td ak hp=>?_
 obtain rfl:=ak
 by_cases e:s=1
 ·refine eN (by simpa using e) ?_
  k_extra "T"
  refine Wp.call (sW (hr.less (by decide)) (by k_extra "u") (by k_extra "u") λh2 st=>?_)
  obtain⟨g3,S3,F3⟩:=Fx.aJ (by k_extra "s") st
  try dsimp only
  k_extra "T"
  refine bL (by refine(EB e).symm▸?_;decide) ?_
  k_extra "T"
  obtain⟨G2,x2,S2⟩:=Fx.bF (by k_extra "s")
  refine Wp.call (fo (k:=k) (B:=B) (d:=.inr (n,d)) (is:=[]) x2 (by k_extra "u") (by k_extra "u") At (by k_extra "u") (hr.less (by decide)) hz (by decide +kernel) ⟨_,_,rfl,by k_extra "u",.nil⟩ (by k_extra "u") λi t B' av ai af ag aO h' st b' mk=>?_)
  obtain⟨g4,S4,F4⟩:=Fx.aT (by k_extra "s") st
  k_extra "T"
  exact ah (K i t B' av ai af ag aO h' (x.done F4 (by k_extra "q")) b' mk)
 ·refine bL (by simpa using e) ?_
  k_extra "T"
  obtain⟨G2,x2,S2⟩:=Fx.bF (by k_extra "s")
  refine Wp.call (fo (k:=k) (B:=B) (d:=.inr (n,d)) (is:=[]) x2 (by k_extra "u") (by k_extra "u") At (by k_extra "u") (hr.less (by decide)) hz (by decide +kernel) ⟨_,_,rfl,by k_extra "u",.nil⟩ (by k_extra "u") λi t B' av ai af ag aO h' st b' mk=>?_)
  obtain⟨g4,S4,F4⟩:=Fx.aT (by k_extra "s") st
  k_extra "T"
  exact ah (K i t B' av ai af ag aO h' (x.done F4 (by k_extra "q")) b' mk)
end
end
noncomputable def tests(ifs:List Expr)(cB:Env):Sem Bool:=forIn ifs true λc r=>if r=true then do let ok <-isTrue c cB (eval c cB);pure (ForInStep.yield ok) else pure (ForInStep.yield r)
section
variable{A:Around}{E E₁:Value->Heap->Prop}{h g:Heap}{env:Env}{L:Addr}{m:Str->Option Value}{ρ:List (Addr×Obj)}{l:List Cell}
theorem lz{cB:Env}{Q:Bool->Heap->Prop}(k:Q true h):Wp A (tests [] cB) Q E h:=.of λg d kk o Q' E' hQ hE=>wpAny_pure (hQ _ _ _ k)
theorem lA{c:Expr}{cB:Env}{Q:Bool->Heap->Prop}(k:Wp A (isTrue c cB (eval c cB)) Q E h):Wp A (tests [c] cB) Q E h:=.of λg d kk o Q' E' hQ hE=>by
 unfold tests
 rw[List.forIn_cons]
 simp only[if_true]
 refine wpAny_bind (wpAny_bind (wpAny_mono (k.go g d kk o Q' E' hQ hE) (λb s q=>?_) λζ ζ q=>q))
 exact wpAny_pure (wpAny_pure q)
def NT:Obj->Prop:=λo=>isTup o=false
theorem pU{bY bj:Heap}{C:Addr}{m₂:Str->Option Value}{l':List Cell}{oL:Obj}(F:Fx ρ bY C m₂ l' bj)(hs:Sub g bY)(hg:g.get? L=none)(hL:bY.get? L=some oL)(hn:bj.Ns L m):
  ∃sX,Sub g sX/\cy bY sX/\Fx ρ sX L m ((C,NT)::l') bj:=by
 refine jH (id F.ns) λoC OM ON JZ rC=>?_
 have Gv:C≠L:=λq=>by subst q;replace hL:=F.dz▸hL;cases hL
 have nl:L∉adr l':=λq=>by replace hL:=(F.bo _ q)▸hL;cases hL
 have nr:L∉adr ρ:=λq=>by replace hL:=(F.bH _ q)▸hL;cases hL
 have gn:∀b,bY.get? b=none->g.get? b=none:=λb e=>by
  cases q:g.get? b with
  |none=>rfl
  |some o=>rw[hs _ _ q] at e;cases e
 suffices hh:Nx ρ g L m ((C,NT)::l') bj by
  obtain⟨sX,S,F'⟩:=hh
  exact⟨sX,S,F'.Hh F.keep F.bH,F'⟩
 refine Fx.grow (L:=L) (m:=m) (ρ:=ρ) (l:=(C,NT)::l') g hn ⟨λp hp=>?_,?_,λp hp=>?_⟩ F.fr (hs.trans F.keep) hg (λb hb=>?_) (λb hb=>gn b (F.bH b hb)) ⟨λhb=>?_,nr⟩ λb hb hr=>?_
 ·rcases List.mem_cons.mp hp with rfl|hp
  ·exact⟨oC,JZ,aS F.ns JZ⟩
  ·exact F.own.at' p hp
 ·exact List.nodup_cons.mpr ⟨F.cz.1,F.own.nd⟩
 ·rcases List.mem_cons.mp hp with rfl|hp
  ·exact λo h=>h
  ·exact F.own.nt p hp
 ·rcases List.mem_cons.mp hb with rfl|hb
  ·exact gn _ F.dz
  ·exact gn _ (F.bo b hb)
 ·rcases List.mem_cons.mp hb with e|hb
  ·exact Gv e.symm
  ·exact nl hb
 ·rcases List.mem_cons.mp hb with rfl|hb
  ·exact F.cz.2 hr
  ·exact F.cS b hb hr
theorem gM{h':Heap}{C:Addr}{p:Obj->Prop}{l':List Cell}(F:Fx ρ g L m ((C,p)::l') h)(hs:Heap.SameBut C h h'):Nx ρ g L m l' h':=by
 have kp:∀b ob,h.get? b=some ob->b≠C->h'.get? b=some ob:=λb ob e q=>(hs.2 b q).trans e
 have LA:L≠C:=λq=>F.cz.1 (q▸List.mem_cons_self)
 obtain⟨g',S,F'⟩:=Fx.u_ (l₀:=[]) (l:=[(C,p)]) (l₁:=l') (l':=[]) (h':=h') F (λb ob e h1 ζ ζ=>kp b ob e λq=>h1 (q▸List.mem_cons_self)) (Own.nil _) (λp hp=>nomatch hp) (f6 F.ns λob e=>kp _ _ e LA) λp hp=>by
  obtain⟨n,sl,e⟩:=F.fr p hp
  exact⟨n,sl,kp _ _ e λq=>F.cS _ (q▸List.mem_cons_self) (ax hp)⟩
 exact⟨g',S,F'⟩
end
def EC(T:Addr):Obj->Prop:=λo=>o.cls= .ref 67/\∃vs,o.data= .fields vs/\vs[1]? =some (.ref T)
def TC:Obj->Prop:=λo=>∃ts,o.data= .fields ts/\3<ts.size
def Rw(o:Obj):Prop:=∃vs,o.data= .fields vs
theorem eR{o:Obj}(h:Rw o):isTup o=false:=by
 refine aP h λvs h=>?_
 unfold isTup
 refine h.symm▸?_
 split <;> simp_all
theorem EC.nt{T:Addr}:∀o,EC T o->isTup o=false:=λo h=>eR ⟨_,h.2.choose_spec.1⟩
theorem TC.nt:∀o,TC o->isTup o=false:=λo h=>eR ⟨_,h.choose_spec.1⟩
noncomputable abbrev X(e T:Addr):List Cell:=[(e,EC T),(T,TC)]
inductive Fl:List Env->List (Addr×Obj)->Prop
 |nil:Fl [] []
 |cons {env:Env} {outer:List Env} {L:Addr} {o:Obj} {ρ:List (Addr×Obj)}:env.scope.kind= .function->env.frame=some L->(∀vs,o.data≠.fields vs)->isTup o=false->Fl outer ρ->Fl (env::outer) ((L,o)::ρ)
 |skip {outer:List Env} {a:Addr} {o:Obj} {ρ:List (Addr×Obj)}:isTup o=true->Fl outer ρ->Fl outer ((a,o)::ρ)
theorem Fl.fun{outer:List Env}{ρ:List (Addr×Obj)}(x:Fl outer ρ){g h:Heap}(hg:Off g (adr ρ))(hf:Frs ρ h):h.FunFrames g outer:=by
 induction x with
 |nil=>trivial
 |@cons env outer L o ρ k f d t _ ih=>
  obtain⟨n,sl,e⟩:=hf (L,o) List.mem_cons_self
  exact⟨by refine k.symm▸?_;decide,⟨L,_,f,hg L List.mem_cons_self,e,d⟩,ih (λb hb=>hg b (List.mem_cons_of_mem _ hb)) λp hp=>hf p (List.mem_cons_of_mem _ hp)⟩
 |skip _ _ ih=>exact ih (λb hb=>hg b (List.mem_cons_of_mem _ hb)) λp hp=>hf p (List.mem_cons_of_mem _ hp)
noncomputable def pV(ρ:List (Addr×Obj)):List Addr:=(ρ.filter λp=>!isTup p.2).map (·.1)
theorem Fl.frames{outer:List Env}{ρ:List (Addr×Obj)}(x:Fl outer ρ):outer.filterMap (·.frame)=pV ρ:=by
 induction x with
 |nil=>rfl
 |cons k f d t _ ih=>
  refine List.filterMap_cons.symm▸f.symm▸ih.symm▸?_
  unfold pV
  rw[List.filter_cons_of_pos (by simpa using t)];rfl
 |skip t _ ih=>
  refine ih.symm▸?_
  unfold pV
  rw[List.filter_cons_of_neg (by simpa using t)]
theorem y_{ρ:List (Addr×Obj)}{b:Addr}(hb:b∈pV ρ):b∈adr ρ:=by
 refine aU (List.mem_map.mp hb) λp hp ak=>?_
 obtain rfl:=ak
 exact List.mem_map.mpr ⟨p,(List.mem_filter.mp hp).1,rfl⟩
structure Ab(A:Around)(env:Env)(L:Addr)(ρ:List (Addr×Obj)):Prop where
 nd:(adr ρ).Nodup
 fr:env.frame=some L
 kind:env.scope.kind= .function
 ar:∃bZ outer,A.frames=some (bZ::outer)/\bZ.frame=some L/\bZ.scope.kind= .function/\Fl outer ρ
section
variable{A:Around}{E:Value->Heap->Prop}{h h' g:Heap}{env:Env}{L:Addr}{m:Str->Option Value}{ρ:List (Addr×Obj)}{l l' l₀ l₁:List Cell}
theorem pW{sl:Array (Option Value)}{o:Obj}(hn:h.Ns L m)(e:h.get? L=some o)(e':h'.get? L=some {o with slots:=sl}):h'.Ns L m:=by
 refine A2 hn λo' es ep ho hd r=>?_
 clear hn
 replace ho:=e▸ho;cases ho
 exact⟨_,es,ep,e',hd,r⟩
theorem Frs.slots{S:List Addr}(x:Frs ρ h)(s:Heap.SlotsOnly S h h')(hS:∀p∈ρ,isTup p.2=true->p.1∉S):Frs ρ h':=λp hp=>by
 obtain⟨n,sl,e⟩:=x p hp
 cases t:isTup p.2 with
 |true=>
  refine⟨trivial,sl,?_⟩
  refine(s.2.1 _ (hS p hp t)).symm▸e.symm▸t.symm▸?_
  rfl
 |false=>
  refine aP (s.2.2 _ _ e) λRx e'=>?_
  exact⟨trivial,Rx,by refine e'.symm▸?_;simp[t]⟩
theorem zb{p:Addr×Obj}(nd:(adr ρ).Nodup)(hp:p∈ρ)(t:isTup p.2=true):p.1∉pV ρ:=λhb=>by
 refine aU (List.mem_map.mp hb) λq hq e=>?_
 refine i_ (List.mem_filter.mp hq) λhq tq=>?_
 have key:∀l:List (Addr×Obj),(adr l).Nodup->p∈l->q∈l->q=p:=λl=>by
  induction l with
  |nil=>intro _ hp;cases hp
  |cons a l ih=>
   intro nd hp hq
   have LB:a.1∉adr l/\(adr l).Nodup:=List.nodup_cons.mp nd
   rcases List.mem_cons.mp hp with e1|HQ
   ·rcases List.mem_cons.mp hq with e2|LC
    ·refine e1.symm▸e2.symm▸?_
     rfl
    ·exact absurd (by refine e1▸(show q.1=p.1 from e)▸?_;exact ax LC) LB.1
   ·rcases List.mem_cons.mp hq with e2|LC
    ·exact absurd (by refine e2▸(show q.1=p.1 from e).symm▸?_;exact ax HQ) LB.1
    ·exact ih LB.2 HQ LC
 have:=key ρ nd hp hq
 subst this
 replace tq:=t▸tq
 cases tq
theorem Fx.slots(F:Fx ρ g L m l h)(nd:(adr ρ).Nodup)(s:Heap.SlotsOnly (L::pV ρ) h h'):Fx ρ g L m l h':=by
 refine u9 (id s) λζ s2 s3=>?_
 have same:∀b,b≠L->b∉adr ρ->h'.get? b=h.get? b:=λb h1 h2=>s2 b λq=>(List.mem_cons.mp q).elim h1 λq=>h2 (y_ q)
 refine jH (id F.ns) λoL es ep i9 r=>?_
 refine aP (s3 L oL i9) λsl eL=>?_
 refine⟨pW F.ns i9 eL,λb o e=>(same b (λq=>?_) λq=>?_).trans (F.keep b o e),λb o e h1 h2 h3=>F.max b o ((same b h1 h3).symm.trans e) h1 h2 h3,F.dz,F.bo,F.bH,F.cz,F.cS,F.own.up λb hb=>same b (λq=>F.cz.1 (q▸hb)) (F.cS b hb),F.fr.slots s λp hp t q=>?_⟩
 ·replace e:=F.dz▸q▸e;cases e
 ·replace e:=(F.bH b q)▸e;cases e
 ·rcases List.mem_cons.mp q with q|q
  ·exact F.cz.2 (by refine(show p.1=L from q)▸?_;exact ax hp)
  ·exact zb nd hp t q
theorem bz{vs:Array Value}{o:Obj}{i:Nat}{v:Value}(hd:o.data= .fields vs):(Obj.mapFields (·.setIfInBounds i v) o).data= .fields (vs.setIfInBounds i v):=Obj.data_mapFields hd _
theorem nX{e T:Addr}{Q:Unit->Heap->Prop}(B:Ab A env L ρ)(F:Fx ρ g L m (X e T++l) h)(k:∀T' g' h',Sub g g'->Fx ρ g' L m (X e T'++l) h'->Q () h'):Wp A (noteFrame (.ref e) env) Q E h:=by
 refine .of ?_;intro gg d kk o Q' E' hQ hE
 obtain⟨nd,hf,hk,bZ,outer,sY,eS,lB,nY⟩:=B
 obtain⟨oe,he,pX,vs,mM,h1⟩:=F.get (a:=e) (p:=EC T) List.mem_cons_self
 obtain⟨oT,hT,ts,Dg,h3⟩:=F.get (a:=T) (p:=TC) (List.mem_cons_of_mem _ List.mem_cons_self)
 unfold noteFrame
 simp only[hf]
 refine wpAny_bind (wpAny_field he mM h1 ?_)
 refine(if_pos (show(Value.ref T !=Value.none)=true from by simp)).symm▸?_
 refine wpAny_bind (wpAny_field hT Dg (x:=ts[3]) (by simp[h3]) ?_)
 by_cases hq:(ts[3]==rawInt L)=true
 ·refine(if_pos hq).symm▸?_
  exact wpAny_pure (hQ _ _ _ (k T g h (Sub.refl _) F))
 refine(if_neg hq).symm▸?_
 refine wpAny_bind (wpAny_setField hT Dg h3 ?_)
 have F1:Fx ρ g L m (X e T++l) (h.update T (Obj.mapFields (·.setIfInBounds 3 Value.none))):=
  Fx.turn (l₀:=[(e,EC T)]) F ⟨by simp[Heap.update],λb q=>Heap.get?_update_other h _ (Ne.symm q)⟩ (Heap.get?_update_self _ hT (Obj.isFreed_of_fields (bz Dg))) ⟨_,bz Dg,by simpa using h3⟩ TC.nt
 generalize h.update T (Obj.mapFields (·.setIfInBounds 3 Value.none))=h1 at F1
 have LD:((bZ::outer).dropWhile λx=>x.frame !=env.frame)=bZ::outer:=by simp[List.dropWhile,hf,eS]
 have LF:h1.FunFrames (hideAll h1 (L::adr ρ)) (bZ::outer):=by
  refine A2 (id F1.ns) λoL es ep i9 Gw r=>?_
  exact⟨by refine lB.symm▸?_;decide,⟨L,oL,eS,hideAll_none _ List.mem_cons_self,i9,λvs q=>by replace q:=Gw▸q;cases q⟩,nY.fun (λb hb=>hideAll_none _ (List.mem_cons_of_mem _ hb)) F1.fr⟩
 have LG:(bZ::outer).filterMap (·.frame)=L::pV ρ:=by rw[List.filterMap_cons,eS,nY.frames]
 refine wpAny_bind (?_:wpAny _ _ (PySem.frameOf env) _ _ _)
 unfold PySem.frameOf
 refine wpAny_bind (wpAny_frameEnvs sY ?_)
 refine LD.symm▸?_
 unfold frameObject
 refine wpAny_bind (wpAny_bind (wpAny_readyFrames_fun LF λh2 fZ=>wpAny_pure ?_))
 refine eS.symm▸?_
 replace fZ:=LG▸fZ
 have F2:=F1.slots nd fZ
 refine wpAny_pure ?_
 refine wpAny_bind (wpAny_entryPlaceOf λpl HR=>?_)
 unfold EntryCells.newEntry newFields
 refine wpAny_bind (wpAny_newObj_type ?_ (HR.sizeOk5 _ _ _ _ _))
 have F3:=F2.push {cls:=.type "traceback",dict:=none,data:=.fields ([.ref T,.ref L,.none,rawInt L,.none]++(if pl.isEmpty then List.replicate 6 Value.none else pl)).toArray} (p:=TC) ⟨_,rfl,by simp only[List.size_toArray,List.length_append,List.length_cons,List.length_nil];lia⟩ TC.nt
 obtain⟨oe,he,pX,vs,mM,h1⟩:=F3.get (a:=e) (p:=EC T) (List.mem_cons_of_mem _ List.mem_cons_self)
 refine wpAny_setField he mM (Array.getElem?_eq_some_iff.mp h1).1 ?_
 have hY:=(Array.getElem?_eq_some_iff.mp h1).1
 have F4:=Fx.turn (l₀:=[(h2.objs.size,TC)]) (p':=EC h2.objs.size) F3 (h':=(h2.push _).update e (Obj.mapFields (·.setIfInBounds 1 (Value.ref h2.objs.size)))) ⟨by simp[Heap.update],λb q=>Heap.get?_update_other _ _ (Ne.symm q)⟩ (Heap.get?_update_self _ he (Obj.isFreed_of_fields (bz mM))) ⟨(Obj.cls_mapFields _ _).trans pX,_,bz mM,by simp[hY]⟩ EC.nt
 obtain⟨g',S,ζ,F5⟩:=Fx.weak (l':=(h2.objs.size,TC)::(e,EC h2.objs.size)::l) F4 (by exact .cons_cons _ (.cons_cons _ (.cons _ (List.Sublist.refl _))))
 exact hQ _ _ _ (k _ g' _ S (F5.perm (List.Perm.swap ..)))
theorem dM{e T:Addr}{f:Option Addr}{Q:Unit->Heap->Prop}(F:Fx ρ g L m (X e T++l) h)(k:∀h',Fx ρ g L m (X e T++l) h'->Q () h'):Wp A (setFlight (.ref e) f) Q E h:=by
 refine .of ?_;intro gg d kk o Q' E' hQ hE
 obtain⟨oe,he,pX,vs,mM,h1⟩:=F.get (a:=e) (p:=EC T) List.mem_cons_self
 obtain⟨oT,hT,ts,Dg,h3⟩:=F.get (a:=T) (p:=TC) (List.mem_cons_of_mem _ List.mem_cons_self)
 unfold setFlight
 refine wpAny_bind (wpAny_field he mM h1 ?_)
 refine(if_pos (show(Value.ref T !=Value.none)=true from by simp)).symm▸?_
 refine wpAny_setField hT Dg h3 (hQ _ _ _ (k _ ?_))
 exact Fx.turn (l₀:=[(e,EC T)]) F ⟨by simp[Heap.update],λb q=>Heap.get?_update_other h _ (Ne.symm q)⟩ (Heap.get?_update_self _ hT (Obj.isFreed_of_fields (bz Dg))) ⟨_,bz Dg,by simpa using h3⟩ TC.nt
theorem gu{e T:Addr}{R:Result->Heap->Prop}(B:Ab A env L ρ)(F:Fx ρ g L m (X e T++l) h)(k:∀T' g' h',Sub g g'->Fx ρ g' L m (X e T'++l) h'->R (.error (.ref e)) h'):Lv A env R (.ref e) h:=by
 unfold Lv leaving
 refine Wp.bind (nX B F λT' g' h' S F'=>?_)
 exact dM F' λh2 F2=>k T' g' h2 S F2
theorem vH{e T:Addr}(B:Ab A env L ρ)(F:Fx ρ g L m (X e T++l) h)(k:∀T' g' h',Sub g g'->Fx ρ g' L m (X e T'++l) h'->E (.ref e) h'):fB A env E (.ref e) h:=by
 unfold fB
 refine nX B F λT' g' h' S F'=>?_
 refine Wp.bind (m:=field (.ref e) 1) ?_
 refine .of ?_;intro gg d kk o Q' E' hQ hE
 obtain⟨oe,he,pX,vs,mM,h1⟩:=F'.get (a:=e) (p:=EC T') List.mem_cons_self
 refine wpAny_field he mM h1 (hQ _ _ _ ?_)
 try dsimp only
 refine(if_neg (show ¬((Value.ref T'==Value.none)=true) from by simp)).symm▸?_
 exact dM F' λh2 F2=>k T' g' h2 S F2
end
theorem mN:Slot "wrapper_descriptor" "__get__" "wrapper_descriptor.__get__":=.of (owner:="wrapper_descriptor") (n:="__get__") (by refine(typeLookup_type ..).symm▸builtinLookup_eq_fast.symm▸?_;kernel_rfl) (by decide +kernel) (by decide +kernel) (by decide +kernel)
 (by first|exact .inl (by decide +kernel)|exact .inr (by decide +kernel)) (by refine(isSubtype_type ..).symm▸?_;kernel_rfl)
theorem sZ:entryFor table "wrapper_descriptor.__get__"=some Builtin.«wrapper_descriptor.__get__»:=entryFor_of_tree (by kernel_rfl)
theorem vJ(a b c:Value):argsOk "wrapper_descriptor.__get__" ⟨[a,b,c],[]⟩:=by unfold argsOk;kernel_rfl
theorem lC:typeOf (.builtin "Exception.__init__")=pure (.type "wrapper_descriptor"):=by
 show builtinType "Exception.__init__"=_
 kernel_rfl
section
variable{A:Around}{E:Value->Shared->Prop}{h:Heap}{g:Array GenState}{d:Drawn}{t:Nat}{os:OsState}
theorem HS{so x C D:Addr}{l₀ l:List Value}{KF:Frag}{tk:Tok}{Q:Fin->Shared->Prop}
  (pL:h.get? so=some {cls:=.type "super",dict:=none,data:=.fields #[.ref D,.ref x,.ref C],slots:=#[]})(LH:Looks (model PW w) h (opaqueClassAbove (.ref C)) none)
  (hC:Looks (model PW w) h (mroOf (.ref C)) l₀)(hl:(l₀.dropWhile (·!=.ref D)).drop 1=l)(X:KF.In h)
  (hf:alongIn KF "__init__" l=some (some (.builtin "Exception.__init__")))(LI:x≠C){ox:Obj}(hx:h.get? x=some ox)(HT:ox.cls= .ref C)(LJ:Looks (model PW w) h (isSubtype (.ref C) (.type "Exception")) true)
  (hq:Q (.done (.ret (.ref h.objs.size))) ⟨h.push {cls:=.type "method-wrapper",data:=.fields #[.builtin "Exception.__init__",.ref x]},g,d,t,os⟩):
  wpAny (model PW w) A (Builtin.«super.__getattribute__» ⟨[.ref so,.str "__init__" tk],[]⟩) Q E ⟨h,g,d,t,os⟩:=by
 have Gu:=mN.lookup
 have ip:(Value.ref x==Value.ref C)=false:=by simp[LI]
 have Vp:=lC
 have OO:(⟨h,g,d,t,os⟩:Shared).TypeIs (.builtin "Exception.__init__") "wrapper_descriptor":=lC
 have LK:({cls:=.type "super",dict:=none,data:=.fields #[.ref D,.ref x,.ref C],slots:=#[]}:Obj).data= .fields #[.ref D,.ref x,.ref C]:=rfl
 have f0:(#[.ref D,.ref x,.ref C]:Array Value)[0]? =some (.ref D):=rfl
 have f1:(#[.ref D,.ref x,.ref C]:Array Value)[1]? =some (.ref x):=rfl
 have f2:(#[.ref D,.ref x,.ref C]:Array Value)[2]? =some (.ref C):=rfl
 have LL:(".".intercalate ("Exception.__init__".cutAt '.').dropLast)="Exception":=by decide +kernel
 have hn:(("__init__":Str)==("__class__":Str))=false:=by decide
 unfold Builtin.«super.__getattribute__»
 repeat (first
  |(with_reducible refine wpAny_field pL LK f0 ?_)|(with_reducible refine wpAny_field pL LK f1 ?_)|(with_reducible refine wpAny_field pL LK f2 ?_)
  |(with_reducible refine ks_wpAny_notOpaque LH ?_)
  |(with_reducible refine Looks.at hC ?_;rw[hl])
  |(refine ks_forIn_along X (λζ ζ=>rfl) rfl ?_ hf)
  |(with_reducible refine wpAny_typeOf OO ?_)
  |(with_reducible refine wpAny_call_entry mN OO sZ ?_ (vJ _ _ _))
  |(with_reducible refine wpAny_loadPart_at hx ?_;rw[HT])
  |(refine LL.symm▸?_;with_reducible refine Looks.at LJ ?_)
  |(with_reducible refine⟨_,rfl,?_⟩)
  |(refine wpAny_ite_false (by refine hn.symm▸ip.symm▸?_;decide) ?_)
  |(refine wpAny_ite_false (by refine ip.symm▸?_;decide) ?_)
  |(simp only[hn,ip,Bool.or_false,Bool.false_eq_true,if_false])
  |wp_step
  |dsimp only)
 all_goals exact hq
noncomputable abbrev jN(x:Addr):Obj:={cls:=.type "method-wrapper",data:=.fields #[.builtin "Exception.__init__",.ref x]}
theorem nZ{so x C D:Addr}{l₀ l:List Value}{KF:Frag}{pl:Sem Bool}{Q:Value×List Value->Shared->Prop}
  (pL:h.get? so=some {cls:=.type "super",dict:=none,data:=.fields #[.ref D,.ref x,.ref C],slots:=#[]})(LH:Looks (model PW w) h (opaqueClassAbove (.ref C)) none)
  (hC:Looks (model PW w) h (mroOf (.ref C)) l₀)(hl:(l₀.dropWhile (·!=.ref D)).drop 1=l)(X:KF.In h)
  (hf:alongIn KF "__init__" l=some (some (.builtin "Exception.__init__")))(LI:x≠C){ox:Obj}(hx:h.get? x=some ox)(HT:ox.cls= .ref C)(LJ:Looks (model PW w) h (isSubtype (.ref C) (.type "Exception")) true)
  (hq:Q (.ref h.objs.size,[]) ⟨h.push (jN x),g,d,t+1,os⟩):wpAny (model PW w) A (getMethod (.ref so) "__init__" pl) Q E ⟨h,g,d,t,os⟩:=by
 have Gu:=PySem.F.ks_slot_super_ga.lookup
 have LM:=PySem.F.ks_canon_super_ga
 have hT:∀t',(⟨h,g,d,t',os⟩:Shared).TypeIs (.ref so) "super":=λζ=>⟨_,pL,rfl⟩
 unfold getMethod
 refine wpAny_bind (wpAny_specialOf (hT _) Gu ?_)
 show wpAny _ _ (if(Manifest.canonical "super.__getattribute__"!="object.__getattribute__")=true then _ else _) _ _ _
 refine(if_pos LM).symm▸?_
 unfold getAttr getAttrBy
 refine wpAny_bind (wpAny_bind (wpAny_mkText (wpAny_holding (wpAny_bind (wpAny_typeOf (hT _) (wpAny_bind (wpAny_of_eq Gu ?_)))))))
 show wpAny _ _ (getAttrByItsOwn (.ref so) (.str "__init__" t) (.type "super") (.builtin "super.__getattribute__") true false) _ _ _
 unfold getAttrByItsOwn hookBefore callGetattribute boundAndCalled
 refine wpAny_bind (wpAny_of_eq (show(if onTheHeap (.type "super") then typeLookup (.type "super") "__getattr__" else pure none)=pure none from rfl) ?_)
 refine wpAny_bind (wpAny_attempt (wpAny_holding ?_))
 show wpAny _ _ (bindSpecial (.builtin "super.__getattribute__") (.ref so)>>=_) _ _ _
 refine wpAny_bind (wpAny_of_eq (PySem.F.ks_slot_super_ga.bind _) ?_)
 refine wpAny_mono (Q:=λv s'=>v= .ref h.objs.size/\s'=⟨h.push (jN x),g,d,t+1,os⟩) (E:=λζ ζ=>False)
  (wpAny_call_entry PySem.F.ks_slot_super_ga (hT _) PySem.F.ks_entry_super_ga (HS pL LH hC hl X hf LI hx HT LJ ⟨_,rfl,rfl,rfl⟩) (PySem.F.ks_gaArgs_super _ _)) (λv s' hv=>?_) λζ ζ z=>z.elim
 refine i_ hv λak iO=>?_
 clear hv
 obtain rfl:=ak
 obtain rfl:=iO
 exact wpAny_pure (wpAny_pure hq)
theorem iT{e:Addr}{oe oC:Obj}{cd:ClassData}{v:Value}{Q:Unit->Shared->Prop}(he:h.get? e=some oe)(vK:oe.cls= .ref 67)(hC:h.get? 67=some oC)(LN:oC.data= .cls cd)(OP:oC.cls= .type "type")(hq:Q () ⟨h,g,d,t,os⟩):
  wpAny (model PW w) A (checkBoundCall "Exception.__init__" ⟨[.ref e,v],[]⟩) Q E ⟨h,g,d,t,os⟩:=by
 have F:=PySem.F.excBase_Exception
 have LO:=F.noStar
 unfold checkBoundCall
 refine F.initKind.symm▸F.initRow.symm▸?_
 dsimp only
 rw[if_pos (by decide)]
 unfold Bind.checkArgs
 repeat (first|(with_reducible refine wpAny_loadPart_at he ?_;rw[vK])|(with_reducible refine wpAny_loadPart_at hC ?_)|wp_step|(refine LN.symm▸?_;dsimp only))
 exact hq
theorem pY(args:Args):(Code.builtin "Exception.__init__" args).quiet=true:=Code.quiet_builtin _ (by decide +kernel)
theorem BA{q e T0:Addr}{oe:Obj}{vs:Array Value}{v:Value}{Q:Value->Shared->Prop}(hq:h.get? q=some (jN e))(he:h.get? e=some oe)(vK:oe.cls= .ref 67){oC:Obj}{cd:ClassData}(hC:h.get? 67=some oC)(LN:oC.data= .cls cd)(OP:oC.cls= .type "type")(hd:oe.data= .fields vs)(h0:vs[0]? =some (.ref T0))
  (k:∀t',Q .none ⟨(h.push {cls:=.type "tuple",data:=.seq [v].toArray}).update e (Obj.mapFields (·.setIfInBounds 0 (.ref h.objs.size))),g,d,t',os⟩):wpAny (model PW w) A (call (.ref q) [v]) Q E ⟨h,g,d,t,os⟩:=by
 refine wpAny_call (codeAny_of_tree ?_)
 show wpAny _ A.in1 (callAny (.ref q) _) _ _ _
 unfold callAny
 refine wpAny_bind (wpAny_load hq ?_)
 show wpAny _ _ (do checkBoundCall "Exception.__init__" ⟨[.ref e,v],[]⟩;return <-again (.builtin "Exception.__init__" ⟨[.ref e,v],[]⟩)) _ _ _
 refine wpAny_bind (iT he vK hC LN OP ?_)
 refine wpAny_bind (wpAny_pure (wpAny_pure ⟨pY _,?_⟩))
 refine codeAny_builtin PySem.F.excBase_Exception.initEntry ?_
 unfold Builtin.«BaseException.__init__»
 have OQ:=Heap.get?_push_of_some {cls:=.type "tuple",data:=.seq [v].toArray} he
 have hz:=(Array.getElem?_eq_some_iff.mp h0).1
 simp only[List.isEmpty_nil,Bool.not_true,Bool.false_eq_true,if_false]
 refine wpAny_bind (wpAny_newObj_type ?_ (by size_fits))
 unfold Builtin.BaseException.bexcPut
 refine wpAny_bind (wpAny_bind (wpAny_field OQ hd h0 (wpAny_bind (wpAny_setField OQ hd hz ?_))))
 try dsimp only
 refine wpAny_letGo (wpAny_pure ?_)
 exact k _
end
theorem gP(P:Params):(findIn (K P) (.ref 67) "__setattr__",findIn (K P) (.ref 67) "what",findIn (K P) (.ref 67) "__init__",typeIn (K P) (.ref 37),subIn (K P) (.ref 67) (.type "object"),subIn (K P) (.ref 67) (.type "Exception"),subIn (K P) (.ref 67) (.ref 47))=
 (some (some (.builtin "object.__setattr__")),some none,some (some (.ref 37)),some (.type "function"),some true,some true,some true):=by kernel_rfl
section
variable{A:Around}{E:Value->Shared->Prop}{h:Heap}{g:Array GenState}{d:Drawn}{t:Nat}{os:OsState}
theorem pZ{e:Addr}{oe:Obj}{vs:Array Value}{v:Value}{Q:Unit->Shared->Prop}(G:Gd h)(he:h.get? e=some oe)(vK:oe.cls= .ref 67)(hd:oe.data= .fields vs)(OR:oe.dict=none)
  (k:∀h' t',h'.get? e=some {oe with dict:=some h.objs.size}->(∀b o,b≠e->h.get? b=some o->h'.get? b=some o)->Q () ⟨h',g,d,t',os⟩):wpAny (model PW w) A (setAttr (.ref e) "what" v) Q E ⟨h,g,d,t,os⟩:=by
 have X:=G.nR
 have ef:=gP w.params
 simp only[Prod.mk.injEq] at ef
 refine K5 ef λe1 e2 e3 e4 e5 e6 e7=>?_
 clear ef
 have I:InstAt h e oe 67 none:=⟨he,vK,by unfold notCls;rw[hd],by simp[OR]⟩
 refine set_plain (s:=⟨h,g,d,t,os⟩) X I e1 ?_
 have SF:=PySem.F.store_Exception
 have sub:Looks (model PW w) h (isInstance (.ref e) (.type "object")) true:=I.type.andThen (looks_subIn X e5)
 refine codeAny_call_builtin SF.slot.plain SF.entry (@check_slot (model PW w) _ _ _ "object.__setattr__" "object" "__setattr__" (.ref e) [.str "what" t,v] [] _ SF.kind SF.split sub (SF.args (.ref e) (.str "what" t) v) ?_)
 have hC:=G.C1 (67,o6) (List.mem_of_getElem? (i:=8) rfl)
 have hm:Looks (model PW w) h (mroOf (.ref 67)) [.ref 67,.ref 47,.type "Exception",.type "BaseException",.type "object"]:=((Looks.ld (part:=none) hC).andThen .now).andThen .now
 refine(osa_eq ..).symm▸(refuse_eq ..).symm▸?_
 refine wpAny_bind (wpAny_bind (I.type.here (wpAny_bind (hm.here ?_))))
 refine(refuseLoop_ref ..).symm▸(refuseLoop_ref ..).symm▸(SF.passes ..).symm▸?_
 refine wpAny_pure (wpAny_bind (I.type.here (wpAny_bind ((looks_findIn X e2).here (wpAny_bind (wpAny_pure ?_))))))
 try dsimp only
 have OS:e≠h.objs.size:=Nat.ne_of_lt (Heap.lt_size he)
 refine wpAny_bind (wpAny_pure (wpAny_bind (wpAny_bind (wpAny_loadPart he ?_))))
 refine vK.symm▸?_
 have Dh:h.get? 67=some o6:=hC
 try dsimp only
 refine wpAny_bind (m:=classData 67) ?_
 unfold classData
 refine wpAny_bind (wpAny_load Dh (wpAny_pure ?_))
 refine OR.symm▸?_
 refine hd.symm▸?_
 try dsimp only
 refine(if_neg (show ¬((!true||!typeHasDict (.ref 67))=true) from by decide)).symm▸?_
 refine wpAny_bind (wpAny_alloc' (wpAny_bind (wpAny_update' (Heap.get?_push_of_some _ he) ?_)))
 refine wpAny_pure (a:=some h.objs.size) ?_
 have LP:=Heap.get?_push_of_some {cls:=.type "dict",data:=.dict #[]} he
 have hu:=Heap.get?_update_self (λo=>{cls:=o.cls,dict:=some h.objs.size,data:=o.data,slots:=o.slots}) LP (by obtain⟨c,dd,dt,sl⟩:=oe;dsimp only at hd;subst hd;rfl)
 have Ry:((h.push {cls:=.type "dict",data:=.dict #[]}).update e λo=>{cls:=o.cls,dict:=some h.objs.size,data:=o.data,slots:=o.slots}).get? h.objs.size=some {cls:=.type "dict",data:=.dict #[]}:=
  (Heap.get?_update_ne _ _ _ _ OS.symm).trans (Heap.get?_push_at rfl rfl)
 have Gy:((h.push {cls:=.type "dict",data:=.dict #[]}).update e λo=>{cls:=o.cls,dict:=some h.objs.size,data:=o.data,slots:=o.slots}).Ns h.objs.size (λζ=>none):=
  ⟨_,#[],_,Ry,rfl,λe he=>absurd he (by simp),λζ=>rfl⟩
 show wpAny _ _ (Builtin.ObjectAttr.storeInDict h.objs.size (.str "what" t) "what" v) _ _ _
 unfold Builtin.ObjectAttr.storeInDict Builtin.ObjectAttr.newKeyGuard
 refine wpAny_bind (wpAny_pure (wpAny_bind (wpAny_nsSet1 (Heap.Ns1.of_empty Gy) λh' HU hs=>?_)))
 refine A2 (HU.count (Within.cons "what" v Within.nil)) λoD Vq Vr Rz RA RB=>?_
 refine wpAny_bind (wpAny_lookBehind Rz (by refine RA.symm▸?_;exact pastItsLine_dict (Nat.le_trans RB (by refine List.length_cons.symm▸List.length_nil.symm▸sizeLine_eq.symm▸?_;lia))) ?_)
 refine wpAny_pure (k h' _ ?_ λb o q hb=>?_)
 ·exact(hs.2 e OS).trans hu
 ·exact(hs.2 b (Nat.ne_of_lt (Heap.lt_size hb))).trans ((Heap.get?_update_ne _ _ _ _ q).trans (Heap.get?_push_of_some _ hb))
end
def Wa{α:Type}(A:Around)(c:Code)(t:Sem α)(Q:α->Heap->Prop)(E:Value->Heap->Prop)(h:Heap):Prop:=
 ∀(g:Array GenState) (d:Drawn) (k:Nat) (o:OsState) (Q':α->Shared->Prop) (E':Value->Shared->Prop),
  (∀a h' k',Q a h'->Q' a ⟨h',g,d,k',o⟩)->(∀e h' k',E e h'->E' e ⟨h',g,d,k',o⟩)->_root_.PySem.wpAt (model PW w) A c t Q' E' ⟨h,g,d,k,o⟩
section
variable{A:Around}{E:Value->Heap->Prop}{h h' g:Heap}{env:Env}{L:Addr}{m:Str->Option Value}{ρ:List (Addr×Obj)}{l l' l₀ l₁:List Cell}{c:Code}{ns gs:List Str}{vs:List (Option Value)}
theorem Wa.any{α:Type}{t:Sem α}{Q:α->Heap->Prop}(x:Wp A t Q E h):Wa A c t Q E h:=λg d k o Q' E' hQ hE=>_root_.PySem.wpAt_of_wpAny (x.go g d k o Q' E' hQ hE)
theorem uF{st rest}{Q:Flow->Heap->Prop}(x:Wa A c (exec st env) (λf h'=>match f with| .next=>Wa A c (execs rest env) Q E h'|f=>Q f h') E h):Wa A c (execs (st::rest) env) Q E h:=
 λg d k o Q' E' hQ hE=>ks_wpAt_execs_cons (x g d k o _ _ (λf h1 k1 hv=>by
  cases f with
  |next=>exact hv g d k1 o Q' E' hQ hE
  |brk=>exact hQ _ _ _ hv
  |cont=>exact hQ _ _ _ hv
  |ret v=>exact hQ _ _ _ hv) hE)
noncomputable abbrev ED(D x C:Addr):Obj:={cls:=.type "super",dict:=none,data:=.fields #[.ref D,.ref x,.ref C],slots:=#[]}
def zc(D x C:Addr):Obj->Prop:=λo=>o=ED D x C
theorem zc.nt{D x C:Addr}:∀o,zc D x C o->isTup o=false:=λo h=>by refine(show o=_ from h).symm▸?_;rfl
theorem Fx.new{a:Addr}{o:Obj}{p:Obj->Prop}(F:Fx ρ g L m l h)(k:Sub h h')(e:h'.get? a=some o)(hn:h.get? a=none)(hp:p o)(ht:∀o,p o->isTup o=false):Nx ρ g L m ((a,p)::l) h':=by
 have at':∀b∈adr l,∃o,h.get? b=some o:=λb hb=>by
  refine aP (f5 hb) λp hp=>?_
  obtain⟨o',h1,ζ⟩:=F.own.at' _ hp
  exact⟨o',h1⟩
 have gn:g.get? a=none:=by
  cases q:g.get? a with
  |none=>rfl
  |some o'=>rw[F.keep _ _ q] at hn;cases hn
 have aL:L≠a:=λq=>by
  refine jH F.ns λoL ζ ζ i9 ζ=>?_
  replace i9:=hn▸q▸i9;cases i9
 have al:a∉adr l:=λq=>by obtain⟨o',h1⟩:=at' a q;replace h1:=hn▸h1;cases h1
 have ar:a∉adr ρ:=λq=>by
  refine aU (List.mem_map.mp q) λp hp ak=>?_
  obtain rfl:=ak
  obtain⟨ζ,sl,h1⟩:=F.fr p hp
  replace h1:=hn▸h1;cases h1
 have own:=F.own.ups k
 refine Fx.grow g (F.ns.keeps k) ⟨λq hq=>?_,?_,λq hq=>?_⟩ (F.fr.ups k) (F.keep.trans k) F.dz (λb hb=>?_) F.bH ⟨λhb=>?_,F.cz.2⟩ λb hb hr=>?_
 ·rcases List.mem_cons.mp hq with rfl|hq
  ·exact⟨o,e,hp⟩
  ·exact own.at' q hq
 ·exact List.nodup_cons.mpr ⟨al,own.nd⟩
 ·rcases List.mem_cons.mp hq with rfl|hq
  ·exact ht
  ·exact own.nt q hq
 ·rcases List.mem_cons.mp hb with rfl|hb
  ·exact gn
  ·exact F.bo b hb
 ·rcases List.mem_cons.mp hb with q|hb
  ·exact aL q
  ·exact F.cz.1 hb
 ·rcases List.mem_cons.mp hb with rfl|hb
  ·exact ar hr
  ·exact F.cS b hb hr
theorem p_{body:List Stmt}{p0 p1 apos pos p:Pos}{name:Str}{args:List Expr}{pl:Sem Bool}{f cc x C D cl:Addr}{of oc ox oD:Obj}{cdD:ClassData}{fd:FuncData}{ar:Arg}{fs:Array Value}{file:Str}{tf:Tok}{Q:Flow->Heap->Prop}
  (O:Ev env L ns gs)(F:Fx ρ g L (mv ns vs) l h)(G:Gd g)(OT:env.kindOf "super"=some .globalImplicit)(EE:env.kindOf "__class__"=some .free)(RC:(name==("__class__":Str))=false)(RD:env.func=some f)(hf:g.get? f=some of)(RE:of.data= .func fd)
  (hp:(fd.params.posonlyargs++fd.params.args).head?=some ar)(ha:At ns vs ar.arg (some (.ref x)))(Le:env.code= .ref cc)(AL:g.get? cc=some oc)(RF:oc.data= .fields fs)(mj:fs[2]? =some (.str file tf))(HV:((PW.main.file:Str)==file)=true)
  (Di:env.cells.lookup ("__class__":Str)=some cl)(j4:Ck g cl (.ref D))(hD:g.get? D=some oD)(OU:oD.data= .cls cdD)(hx:h.get? x=some ox)(HT:ox.cls= .ref C)(RG:∀c,ox.data≠.cls c)(hM:subIn (K w.params) (.ref C) (.ref D)=some true)
  (k:∀so g' h',Sub g g'->Fx ρ g' L (mv ns vs) ((so,zc D x C)::l) h'->Sub h h'->Wp A (getMethod (.ref so) name pl) (λfx h2=>Wp A (callWith pos fx.1 fx.2 (backTo pos (starEach args env)) []) (λζ=>Q .next) E h2) E h')
  (he:eval (.Call (.Attribute (.Call (.Name "super" p0) [] [] p1) name apos) args [] pos) env=(do
   let ov <-attributeBase (.Call (.Name "super" p0) [] [] p1) name env (eval (.Call (.Name "super" p0) [] [] p1) env)
   standAt apos.atName
   let(f,first) <-holding [ov] (getMethod ov name pl)
   callWith pos f first (backTo pos (starEach args env)) []):=by rfl)
  (hi:interactive env=false:=by rfl)(hs:swapsWith (.Call (.Attribute (.Call (.Name "super" p0) [] [] p1) name apos) args [] pos) none p.line env=pure false:=by rfl):
  Wa A (.func body env) (exec (.Expr (.Call (.Attribute (.Call (.Name "super" p0) [] [] p1) name apos) args [] pos) p) env) Q E h:=by
 intro gg d kk o Q' E' hQ hE
 refine ks_wpAt_Expr_any (ks_wpAt_MethodCall ?_ he) hi hs
 refine ks_wpAt_super_base OT EE RC RD (F.keep _ _ hf) RE hp Le (F.keep _ _ AL) RF mj HV (by kernel_rfl) ?_
 refine nE (id G) λmg mb G0=>?_
 refine ks_loadName_global O.kind OT (loadGlobal_builtin (O.AK▸(G0.up F.keep).glob) (G0.gn (v:=.type "super") (by decide)) (O.Gn▸(G0.up F.keep).blt) (G0.bl (v:=.type "super") (by decide)) ⟨rfl,?_⟩)
 obtain⟨RH,e1,e2⟩:=j4.up F.keep
 refine wpAny_loadName_free O.kind EE Di ⟨RH,e1,e2⟩ ?_
 refine wpAny_loadName_local O.kind (O.lk _ ha.mem).1 (O.loc▸F.ns) (CZ O.nd ha) ?_
 refine ks_wpAny_isType_cls (F.keep _ _ hD) OU ⟨rfl,?_⟩
 refine ks_wpAny_call_super (F.keep _ _ hD) OU hx HT RG (looks_subIn (G.up F.keep).nR hM) λh' e q=>?_
 obtain⟨g',S,F'⟩:=F.new (p:=zc D x C) q e (Heap.get?_none_of_le (Nat.le_refl _)) rfl zc.nt
 exact(k _ g' h' S F' q).go gg d kk o _ _ (λfx h2 k2 z=>z.go gg d k2 o _ _ (λζ h3 k3 z=>hQ _ _ _ z) hE) hE
end
section
variable{A:Around}{E:Value->Heap->Prop}{h h' g:Heap}{env:Env}{L:Addr}{m:Str->Option Value}{ρ:List (Addr×Obj)}{l l' l₀ l₁:List Cell}{ns gs:List Str}{vs:List (Option Value)}
theorem qe{f:Addr}{aG:FuncData}{body:List Stmt}{ps rest ns gs:List Str}{vs:List (Option Value)}{args:List Value}{R:Result->Heap->Prop}{oc:Value}{od:Option Addr}{oZ:Array (Option Value)}{r:Nat}(x:Gr ρ g h l)(G:Gd g)(hA:Rm A (r+1))
  (ho:g.get? f=some ⟨oc,od,.func aG,oZ⟩)(i8:g.CodeRec aG.code aG.qualname)(bK:aG.body= .stmts body)(bB:bindArgs aG ⟨args,[]⟩=pure (ps.zip args))(fY:ns=ps++rest)(mj:vs=args.map some++rest.map λζ=>none)(hlen:ps.length=args.length)
  (g_:(ij aG ns gs&&aG.scope.names.all (λy=>y.2 !=.cell)&&!aG.scope.isCoroutine&&!aG.scope.isGenerator)=true)
  (k:∀L g' h' env A1,env=callEnv aG L f->A1=A.deeper env->Rm A1 r->Ev env L ns gs->Sub g g'->Fx ρ g' L (mv ns vs) l h'->Wa A1 (.func body env) (execs body env) (qX R) (Lv A1 env R) h'):Cd A (.call (.ref f) ⟨args,[]⟩) R h:=by
 simp only[Bool.and_eq_true,Bool.not_eq_true'] at g_
 obtain⟨⟨⟨h1,h2⟩,h3⟩,h4⟩:=g_
 have O:=λ(L f:Addr)=>um (L:=L) (f:=f) h1
 have O0:=O 0 0
 have Lc:∀y∈ps,aG.scope.names.lookup y=some .local:=λy hy=>(O0.lk y (by refine fY.symm▸?_;exact List.mem_append_left _ hy)).1
 have hn:ps.Nodup:=by
  have:=O0.nd
  replace this:=fY▸this
  exact(List.nodup_append.mp this).1
 refine .of ?_;intro gg d kk o R' hR
 refine ks_codeAny_call_defAt (s:=⟨h,gg,d,kk,o⟩) (fd:=aG) (body:=body) (binds:=ps.zip args) hA.room (x.sub _ _ ho) rfl (G.up x.sub).lim (i8.keeps x.sub) bK (BindsTo.of_eq bB)
  (λy hy e=>by have:=List.all_eq_true.mp h2 y hy;replace this:=e▸this;cases this) (λy hy=>Lc _ (List.of_mem_zip hy).1) (λh₀ Es D_=>?_) h3 h4 O0.kind
 obtain⟨g',hs,F⟩:Nx ρ g h.objs.size (mv ns vs) l h₀:=
  Fx.grow g (by refine fY.symm▸mj.symm▸(kE hlen hn)▸?_;exact Es) (x.own.ups D_) (x.fr.ups D_) (x.sub.trans D_) x.sub.fresh x.bo x.bH ⟨x.own.fresh,x.fr.fresh⟩ x.cS
 exact(k h.objs.size g' h₀ _ _ rfl rfl hA.deeper (O _ f) hs F) gg d _ o _ _ (λfl h1 k1 q=>hR _ _ _ q) (λe h1 k1 q=>Wp.go q gg d k1 o _ _ (λζ h2 k2 z=>hR _ _ _ z) (λe' h2 k2 z=>hR _ _ _ z))
theorem n7{pos:Pos}{f:Addr}{e:Expr}{rest:List Expr}{Q:Value->Heap->Prop}{P:Heap->Prop}
  (hk:∀h,P h->∃k,(k=Keeper.frame\/k=Keeper.machine\/k=Keeper.boundFrame)/\Looks (model PW w) h (keeperOf (.ref f)) k)
  (x:Wp A (spliced (backTo pos (starEach (e::rest) env))) (λvs h1=>P h1/\Wp A (call (.ref f) vs) Q E h1) E h)
  (he:starEach (e::rest) env=(false,eval e env)::starEach rest env:=by rfl)(hp:(backTo pos (starEach rest env)).any (·.1)=false:=by rfl):Wp A (callWith pos (.ref f) [] (backTo pos (starEach (e::rest) env)) []) Q E h:=
 .of λg d k o Q' E' hQ hE=>by
  have q:=x.go g d k o (λvs s'=>P s'.heap/\wpAny (model PW w) A (call (.ref f) vs) Q' E' s') E' (λvs h1 k1 hv=>⟨hv.1,hv.2.go g d k1 o Q' E' hQ hE⟩) hE
  rw[he] at q ⊢
  exact callWith_of (P:=P) (by show((false||(backTo pos (starEach rest env)).any (·.1))||false)=false;refine hp.symm▸?_;rfl) hk (evalArgs_plain q)
theorem qf{pos:Pos}{f:Addr}{Q:Value->Heap->Prop}(hk:∃k,(k=Keeper.frame\/k=Keeper.machine\/k=Keeper.boundFrame)/\Looks (model PW w) h (keeperOf (.ref f)) k)
  (x:Wp A (call (.ref f) []) Q E h):Wp A (callWith pos (.ref f) [] (backTo pos (starEach [] env)) []) Q E h:=
 .of λg d k o Q' E' hQ hE=>callWith_of (P:=λh'=>h'=h) rfl (λh' e=>e▸hk) (evalArgs_nil3 ⟨rfl,x.go g d k o Q' E' hQ hE⟩)
def EF(x:Addr):Obj->Prop:=λo=>o=jN x
theorem EF.nt{x:Addr}:∀o,EF x o->isTup o=false:=λo h=>by refine(show o=_ from h).symm▸?_;rfl
theorem vL{q x:Addr}(h:Heap)(e:h.get? q=some (jN x)):∃k,(k=Keeper.frame\/k=Keeper.machine\/k=Keeper.boundFrame)/\Looks (model PW w) h (keeperOf (.ref q)) k:=
 ⟨.machine,.inr (.inl rfl),(Looks.ld (part:=none) e).andThen .now⟩
def s8:Obj->Prop:=λo=>o.cls= .ref 67/\o.dict=none/\∃vs T,o.data= .fields vs/\vs[0]? =some (.ref T)/\vs[1]? =some .none
def E0:Obj->Prop:=λo=>o.cls= .ref 67/\∃vs,o.data= .fields vs/\vs[1]? =some .none
theorem s8.nt:∀o,s8 o->isTup o=false:=λo h=>eR ⟨_,h.2.2.choose_spec.choose_spec.1⟩
theorem E0.nt:∀o,E0 o->isTup o=false:=λo h=>eR ⟨_,h.2.choose_spec.1⟩
end
section
variable{A:Around}{E:Value->Heap->Prop}{h g:Heap}{env:Env}{R:Result->Heap->Prop}
theorem aE{o:Expr}{attr:Str}{pos' pos:Pos}{value:Expr}{Q:Flow->Heap->Prop}(x:Wp A (eval value env) (λv h1=>Wp A (eval o env) (λov h2=>Wp A (setAttr ov attr v) (λζ=>Q .next) E h2) E h1) E h)
  (hs:swapsWith value (some (.Attribute o attr pos')) pos.line env=pure false:=by rfl):Wp A (exec (.Assign [.Attribute o attr pos'] value pos) env) Q E h:=
 .of λg d k os Q' E' hQ hE=>PySem.plainObj_wpAny_Assign_Attribute (x.go g d k os _ _ (λv h1 k1 a=>a.go g d k1 os _ E' (λov h2 k2 b=>b.go g d k2 os _ E' (λζ h4 k4 q=>hQ _ _ _ q) hE) hE) hE) hs
theorem vM{o:Obj}{f:Array Value->Array Value}:(Obj.mapFields f o).dict=o.dict:=by
 obtain⟨c,d,dt,sl⟩:=o
 cases dt <;> rfl
theorem LQ(G:Gd g):Ck g 25 (.ref 47):=⟨w4,G.k 1 rfl,rfl⟩
theorem RI(G:Gd g):Looks (model PW w) g (opaqueClassAbove (.ref 67)) none:=looks_opaque G.nR (by kernel_rfl)
theorem HW(G:Gd g):Looks (model PW w) g (mroOf (.ref 67)) [.ref 67,.ref 47,.type "Exception",.type "BaseException",.type "object"]:=((Looks.ld (part:=none) (cF G)).andThen .now).andThen .now
theorem BB(P:Params):alongIn (K P) "__init__" [.type "Exception",.type "BaseException",.type "object"]=some (some (.builtin "Exception.__init__")):=by kernel_rfl
theorem BC{e:Addr}{v:Value}(x:Gr [] g h [(e,s8)])(G:Gd g)(hA:Rm A 2)
  (K:∀h',Step [] [(e,s8)] h [(e,E0)] h'->R (.ok (.ret .none)) h'):Cd A (.call (.ref 37) ⟨[.ref e,v],[]⟩) R h:=by
 refine qe (ps:=[U "self",U "what"]) (rest:=[]) (ns:=[U "self",U "what"]) (gs:=[]) (vs:=[some (.ref e),some v]) (r:=1) x G hA (fw G) (jV G) rfl rfl rfl rfl rfl (by decide +kernel) λL g1 h1 env A1 hE bS hr O S F=>?_
 have G1:=G.up S
 obtain⟨oe,he,pX,mM,vs,T,g_,h0,wX⟩:=F.get (a:=e) (p:=s8) List.mem_cons_self
 refine uF ?_
 refine p_ (x:=e) (C:=67) (D:=47) (cl:=25) (f:=37) (cc:=36) (cdD:=(match ug.data with| .cls c=>c|_=>default)) O F G1 (by subst hE;k_extra "R") (by subst hE;k_extra "R") (by decide +kernel) (by subst hE;rfl) (fw G1) rfl rfl (by k_extra "a") (by subst hE;rfl) (G1.k 3 rfl) rfl rfl (by decide +kernel) (by subst hE;rfl) (LQ G1) (sQ G1) rfl he pX (λc q=>by replace q:=g_▸q;cases q) (by have:=gP w.params;simp only[Prod.mk.injEq] at this;exact this.2.2.2.2.2.2) ?_ (by subst hE;rfl) (by subst hE;rfl) (by subst hE;rfl)
 intro so g2 h2 S2 F2 q2
 obtain⟨RJ,pL,rfl⟩:=F2.get (a:=so) (p:=zc 47 e 67) List.mem_cons_self
 have G2:=(G1.up S2).up F2.keep
 have RK:e≠67:=λq=>by
  have:=cF (G1.up F.keep)
  replace this:=he▸q.symm▸this
  cases this
  cases pX
 have Dj:=q2 _ _ he
 refine .of ?_;intro gg d kk o Q' E' hQ EG
 have sub:=gP w.params
 simp only[Prod.mk.injEq] at sub
 refine nZ (l₀:=[.ref 67,.ref 47,.type "Exception",.type "BaseException",.type "object"]) pL (RI G2) (HW G2) (by decide +kernel) G2.nR (BB w.params) RK Dj pX (looks_subIn G2.nR sub.2.2.2.2.2.1) (hQ _ _ _ ?_)
 have F3:=F2.push (jN e) (p:=EF e) rfl EF.nt
 generalize hq:h2.objs.size=q at F3
 refine n7 (P:=λh=>h.get? q=some (jN e)) (λh eh=>vL h eh) ?_ (by subst hE;rfl) (by subst hE;rfl)
 k_extra "T"
 have G3:=(G1.up S2).up F3.keep
 obtain⟨oq,BD,e1⟩:=F3.get (a:=q) (p:=EF e) List.mem_cons_self
 replace BD:=(show oq=_ from e1)▸BD
 refine⟨BD,?_⟩
 obtain⟨Vs,OV,HX,LR,Vt,T3,EH,OW,o4⟩:=F3.get (a:=e) (p:=s8) (by k_extra "m")
 refine .of ?_;intro gg d kk o Q' E' hQ EG
 refine BA BD OV HX (cF G3) rfl rfl EH OW λt'=>hQ _ _ _ ?_
 obtain⟨g4,S4,ζ,F4⟩:=F3.yt (o7 [v] 0)
 have RL:=Heap.get?_push_of_some (o7 [v] 0) OV
 have F5:=Fx.turn (l₀:=[(q,EF e),(so,zc 47 e 67)]) (p':=s8) F4 ⟨by simp[Heap.update],λb z=>Heap.get?_update_other _ _ (Ne.symm z)⟩ (Heap.get?_update_self (Obj.mapFields (·.setIfInBounds 0 (.ref (h2.push (jN e)).objs.size))) RL (Obj.isFreed_of_fields (bz EH))) ⟨(Obj.cls_mapFields _ _).trans HX,vM.trans LR,_,_,bz EH,by rw[Array.getElem?_setIfInBounds_self_of_lt (Array.getElem?_eq_some_iff.mp OW).1],by rw[Array.getElem?_setIfInBounds_ne (by decide)];exact o4⟩ s8.nt
 refine Wa.any (au ?_)
 refine aE ?_ (by subst hE;k_extra "R")
 k_extra "T"
 obtain⟨Vu,RM,HY,LS,RN,T5,HZ,J0,H0⟩:=F5.get (a:=e) (p:=s8) (List.mem_append_right _ List.mem_cons_self)
 have G5:=(((G1.up S2).up S4).up F5.keep)
 refine .of ?_;intro gg d kk o Q' E' hQ EG
 refine pZ G5 RM HY HZ LS λh6 t6 RO OX=>hQ _ _ _ ?_
 have eL:L≠e:=λz=>F5.cz.1 (by refine z.symm▸?_;exact ax (p:=(e,s8)) (List.mem_append_right _ List.mem_cons_self))
 obtain⟨g7,S7,F7⟩:=Fx.u_ (l₀:=[(q,EF e),(so,zc 47 e 67)]) (l:=[(e,s8)]) (l₁:=[]) (l':=[(e,E0)]) F5 (λb ob z h1 ζ ζ=>OX b ob (λy=>h1 (by refine y.symm▸?_;exact List.mem_cons_self)) z)
  ⟨λp hp=>by refine(List.mem_singleton.mp hp).symm▸?_;exact⟨_,RO,HY,RN,HZ,H0⟩,by simp[adr],λp hp=>by refine(List.mem_singleton.mp hp).symm▸?_;exact E0.nt⟩ (λp hp=>.inl (by refine(List.mem_singleton.mp hp).symm▸?_;exact List.mem_cons_self)) (f6 F5.ns λob z=>OX _ _ eL z) (Frs.nil _)
 obtain⟨g8,S8,ζ,F8⟩:=Fx.weak (l':=[(e,E0)]) F7 (by exact .cons _ (.cons _ (List.Sublist.refl _)))
 refine aB (dI (K _ (x.done F8 (by k_extra "q"))))
end
noncomputable abbrev iu:List Value:=[.ref 47,.type "Exception",.type "BaseException",.type "object"]
noncomputable abbrev H3:Obj:=excClassObj (Str.ofString "SortFault") (Str.ofString "SortFault") 67 66 [vR 47] iu true [] [] false none none (some (vR 51)) none (some (vS "SortFault" 234)) (some (vS "SortFault" 242)) (some (.bool true)) "Exception.__new__"
section
variable{A:Around}{E:Value->Shared->Prop}{R:Result->Shared->Prop}{h:Heap}{g:Array GenState}{d:Drawn}{t:Nat}{os:OsState}
theorem qg{rest:List Value}{Q:Unit->Shared->Prop}(hC:h.get? 67=some H3)(hq:Q () ⟨h,g,d,t,os⟩):
  wpAny (model PW w) A (checkBuiltinCall "Exception.__new__" ⟨.ref 67::rest,[]⟩) Q E ⟨h,g,d,t,os⟩:=by
 have F:=PySem.F.excBase_Exception
 have H4:(Value.ref 67::iu).contains (.type "Exception")=true:=by decide
 have C5:=F.noStar
 unfold checkBuiltinCall
 refine F.newKind.symm▸F.newRow.symm▸?_
 dsimp only
 repeat (first|rw[F.newSplit]|refine wpAny_loadPart_at hC ?_|(refine wpAny_isSubtype_exc hC ?_;rw[H4])|refine wpAny_staticBase_exc hC ?_|refine wpAny_madeBy_exc hC ?_|simp only[bne_self_eq_false,Bool.false_eq_true,if_false]|wp_step)
 exact hq
theorem H5{rest:List Value}(hC:h.get? 67=some H3)
  (hq:R (.ok (.ret (.ref (h.objs.size+1)))) ⟨(h.push {cls:=.type "tuple",data:=.seq rest.toArray}).push {cls:=.ref 67,data:=.fields #[.ref h.objs.size,.none,.none,.none,.bool false,.none]},g,d,t,os⟩)(OY:rest.length<=sizeLine:=by size_fits):
  codeAny (model PW w) A (.builtin "Exception.__new__" ⟨.ref 67::rest,[]⟩) R ⟨h,g,d,t,os⟩:=by
 have F:=PySem.F.excBase_Exception
 have OZ:=F.ends
 have LU:(Value.ref 67::iu).contains (.type "Exception")=true:=by decide
 have RP:(Value.ref 67::iu).contains (.type "AttributeError")=false:=by decide
 have RQ:(Value.ref 67::iu).contains (.type "NameError")=false:=by decide
 refine codeAny_builtinAt F.entry ?_
 unfold Builtin.«BaseException.__new__»
 refine _root_.PySem.wpAt_bind ?_
 show _root_.PySem.wpAt _ _ _ (stack>>=_) _ _ _
 refine _root_.PySem.wpAt_bind (_root_.PySem.wpAt_stack λp below=>_root_.PySem.wpAt_of_wpAny ?_)
 wp_walk
 refine _root_.PySem.wpAt_of_wpAny ?_
 refine F.owner.symm▸?_
 repeat (first|with_reducible refine wpAny_madeHere_exc F.canon hC ?_|with_reducible refine wpAny_loadPart_at hC ?_|(with_reducible refine wpAny_isSubtype_exc hC ?_;first|rw[LU]|rw[RP]|rw[RQ])|wp_step)
 show R _ _
 refine(Heap.size_push ..).symm▸?_
 exact hq
theorem EI{v:Value}{Q:Value->Shared->Prop}(G:Gd h)(k:∀h' e T,(∀b o,h.get? b=some o->h'.get? b=some o)->h.get? e=none->h'.get? e=some {cls:=.ref 67,data:=.fields #[.ref T,.none,.none,.none,.bool false,.none]}->
   wpAny (model PW w) (A.under (.builtin "type.__call__" ⟨[.ref 67,v],[]⟩)) (call (.ref 37) [.ref e,v]) (λr s'=>r= .none/\Q (.ref e) s') E ⟨h',g,d,t,os⟩):wpAny (model PW w) A (call (.ref 67) [v]) Q E ⟨h,g,d,t,os⟩:=by
 have hC:h.get? 67=some H3:=cF G
 have ef:=gP w.params
 simp only[Prod.mk.injEq] at ef
 refine K5 ef λe1 e2 e3 e4 e5 e6 e7=>?_
 clear ef
 have F:=PySem.F.excBase_Exception
 have f1:=tc_lookup
 have f2:=tc_bind (.ref 67)
 have hT:(⟨h,g,d,t,os⟩:Shared).TypeIs (.ref 67) "type":=⟨_,hC,rfl⟩
 refine wpAny_call (codeAny_of_tree ?_)
 show wpAny _ _ (callAny (.ref 67) _) _ _ _
 repeat (any_goals (first|assumption|with_reducible refine wpAny_loadPart_at hC ?_|wp_step))
 refine⟨rfl,?_⟩
 refine codeAny_call_builtin_at (Code.quiet_builtin _ (by decide +kernel)) entry_typeCall (wpAny_check_type_call_sub hC ?_)
 repeat (first|with_reducible refine wpAny_loadPart_at hC ?_|with_reducible refine wpAny_madeBy_exc hC ?_|wp_step)
 refine codeAny_call_builtin_code (Code.quiet_builtin _ F.quiet) (qg hC ?_)
 refine H5 (rest:=[v]) hC ?_ (by show 1<=sizeLine;refine sizeLine_eq.symm▸?_;decide)
 show wpAny _ _ _ _ _ _
 have kp:∀b o,h.get? b=some o->((h.push {cls:=.type "tuple",data:=.seq [v].toArray}).push {cls:=.ref 67,data:=.fields #[.ref h.objs.size,.none,.none,.none,.bool false,.none]}).get? b=some o:=λb o q=>Heap.get?_push_of_some _ (Heap.get?_push_of_some _ q)
 have RS:=kp _ _ hC
 have X1:(K w.params).In _:=(G.up (h:=(h.push {cls:=.type "tuple",data:=.seq [v].toArray}).push {cls:=.ref 67,data:=.fields #[.ref h.objs.size,.none,.none,.none,.bool false,.none]}) kp).nR
 have H6:((h.push {cls:=.type "tuple",data:=.seq [v].toArray}).push
   {cls:=.ref 67,data:=.fields #[.ref h.objs.size,.none,.none,.none,.bool false,.none]}).get? (h.objs.size+1)=some
   {cls:=.ref 67,data:=.fields #[.ref h.objs.size,.none,.none,.none,.bool false,.none]}:=by heap_get
 have RT:(Value.ref 67::iu).contains (.ref 67)=true:=by decide
 unfold isInstance
 repeat (first|with_reducible refine wpAny_loadPart_at H6 ?_|(with_reducible refine wpAny_isSubtype_exc RS ?_;rw[RT])|wp_step)
 show wpAny _ _ (typeLookup (.ref 67) _) _ _ _
 refine(looks_findIn X1 e3).here ?_
 refine wpAny_holding (wpAny_bind ((bind_fn X1 _ e4).here ?_))
 refine wpAny_bind (wpAny_mono (k _ (h.objs.size+1) h.objs.size kp (Heap.get?_none_of_le (Nat.le_succ _)) H6) (λr s' hr=>?_) λζ ζ x=>x)
 refine i_ hr λak hQ=>?_
 clear hr
 obtain rfl:=ak
 wp_walk
 exact hQ
end
theorem Rm.makes{A:Around}{k:Nat}{C:Addr}{rest:List Value}{kw:List (Str×Value)}(x:Rm A (k+1)):Rm (A.under (.builtin "type.__call__" ⟨.ref C::rest,kw⟩)) k:=
 ⟨x.hd,by have:=x.dp;show A.depth+1+k<=900;lia,by have:=x.un;show A.units+1+10*k<=9000;lia⟩
section
variable{A:Around}{E:Value->Heap->Prop}{h h' g:Heap}{env:Env}{L:Addr}{m:Str->Option Value}{ρ:List (Addr×Obj)}{l l' l₀ l₁:List Cell}{ns gs:List Str}{vs:List (Option Value)}
theorem uB{v:Value}{Q:Value->Heap->Prop}(hA:Rm A 3)(F:Fx ρ g L m l h)(G:Gd g)(k:∀e g' h',Sub g g'->Fx ρ g' L m ((e,E0)::l) h'->Q (.ref e) h'):Wp A (call (.ref 67) [v]) Q E h:=by
 refine .of ?_;intro gg d kk o Q' E' hQ hE
 refine EI (G.up F.keep) λh1 e T kp hn he=>?_
 obtain⟨g1,S1,F1⟩:=F.new (p:=s8) kp he hn ⟨rfl,rfl,_,_,rfl,rfl,rfl⟩ s8.nt
 obtain⟨G1,x1,S2⟩:=Fx.gr (l₀:=[]) (l:=[(e,s8)]) (l₁:=l) F1
 refine(Wp.call (Q:=λr s'=>r= .none/\Nx ρ g L m ((e,E0)::l) s') (E:=λζ ζ=>False) (BC x1 ((G.up S1).up S2) hA.makes λh2 st=>?_)).go gg d _ o _ _ (λr s' k' q=>?_) λζ ζ ζ q=>q.elim
 ·obtain⟨g2,S3,F2⟩:=Fx.ja (l₀:=[]) (l:=[(e,s8)]) (l₁:=l) F1 st
  exact⟨rfl,g2,S1.trans S3,F2⟩
 ·obtain⟨rfl,g2,S3,F2⟩:=q
  exact⟨rfl,hQ _ _ _ (k e g2 _ S3 F2)⟩
theorem uz{x:Expr}{pos:Pos}{Q:Flow->Heap->Prop}(hA:A.handled=none)(k:Wp A (eval x env) (λv h1=>∃e,v= .ref e/\(Gt h1 e E0)/\Gd h1/\E (.ref e) h1) E h):Wp A (exec (.Raise (some x) none pos) env) Q E h:=by
 refine .of ?_;intro gg d kk o Q' E' hQ hE
 refine(arm_exec_Raise ..).symm▸?_
 refine wpAny_bind (wpAny_standAt ?_)
 show wpAny _ _ (raiseStmt env (some (do let v <-eval x env;standAt pos;pure v)) none) _ _ _
 unfold raiseStmt
 refine wpAny_bind (wpAny_bind (k.go gg d kk o _ _ (λv h1 k1 q=>wpAny_bind (wpAny_standAt (wpAny_pure ?_))) hE))
 obtain⟨e,rfl,⟨oe,he,pX,vs,g_,wX⟩,G,hq⟩:=q
 have hC:=cF G
 have LU:(Value.ref 67::iu).contains (.type "BaseException")=true:=by decide
 have Dh:h1.get? 67=some H3:=hC
 repeat (first|(with_reducible refine wpAny_loadPart_at he ?_;rw[pX])|(refine g_.symm▸?_;dsimp only)|with_reducible refine wpAny_loadPart_at Dh ?_|(with_reducible refine wpAny_isSubtype_exc Dh ?_;rw[LU])|wp_step)
 refine wX.symm▸?_
 refine wpAny_pure ?_
 refine(if_neg (show ¬((Value.none !=Value.none)=true) from by decide)).symm▸?_
 exact wpAny_pure (wpAny_raiseNew_none hA (hE _ _ _ hq))
theorem uG{e:Addr}{Q:Unit->Heap->Prop}(B:Ab A env L ρ)(F:Fx ρ g L m ((e,E0)::l) h)(k:∀T' g' h',Sub g g'->Fx ρ g' L m (X e T'++l) h'->Q () h'):Wp A (noteFrame (.ref e) env) Q E h:=by
 refine .of ?_;intro gg d kk o Q' E' hQ hE
 obtain⟨nd,hf,hk,bZ,outer,sY,eS,lB,nY⟩:=B
 obtain⟨oe,he,pX,vs,mM,h1⟩:=F.get (a:=e) (p:=E0) List.mem_cons_self
 unfold noteFrame
 simp only[hf]
 refine wpAny_bind (wpAny_field he mM h1 ?_)
 refine(if_neg (show ¬((Value.none !=Value.none)=true) from by decide)).symm▸?_
 have LD:((bZ::outer).dropWhile λx=>x.frame !=env.frame)=bZ::outer:=by simp[List.dropWhile,hf,eS]
 have LF:h.FunFrames (hideAll h (L::adr ρ)) (bZ::outer):=by
  refine A2 (id F.ns) λoL es ep i9 Gw r=>?_
  exact⟨by refine lB.symm▸?_;decide,⟨L,oL,eS,hideAll_none _ List.mem_cons_self,i9,λvs q=>by replace q:=Gw▸q;cases q⟩,nY.fun (λb hb=>hideAll_none _ (List.mem_cons_of_mem _ hb)) F.fr⟩
 have LG:(bZ::outer).filterMap (·.frame)=L::pV ρ:=by rw[List.filterMap_cons,eS,nY.frames]
 refine wpAny_bind (?_:wpAny _ _ (PySem.frameOf env) _ _ _)
 unfold PySem.frameOf
 refine wpAny_bind (wpAny_frameEnvs sY ?_)
 refine LD.symm▸?_
 unfold frameObject
 refine wpAny_bind (wpAny_bind (wpAny_readyFrames_fun LF λh2 fZ=>wpAny_pure ?_))
 refine eS.symm▸?_
 replace fZ:=LG▸fZ
 have F2:=F.slots nd fZ
 refine wpAny_pure ?_
 refine wpAny_bind (wpAny_entryPlaceOf λpl HR=>?_)
 unfold EntryCells.newEntry newFields
 refine wpAny_bind (wpAny_newObj_type ?_ (HR.sizeOk5 _ _ _ _ _))
 have F3:=F2.push {cls:=.type "traceback",dict:=none,data:=.fields ([.none,.ref L,.none,rawInt L,.none]++(if pl.isEmpty then List.replicate 6 Value.none else pl)).toArray} (p:=TC) ⟨_,rfl,by simp only[List.size_toArray,List.length_append,List.length_cons,List.length_nil];lia⟩ TC.nt
 obtain⟨oe,he,pX,vs,mM,h1⟩:=F3.get (a:=e) (p:=E0) (List.mem_cons_of_mem _ List.mem_cons_self)
 have hY:=(Array.getElem?_eq_some_iff.mp h1).1
 refine wpAny_setField he mM hY ?_
 have F4:=Fx.turn (l₀:=[(h2.objs.size,TC)]) (p':=EC h2.objs.size) F3 (h':=(h2.push _).update e (Obj.mapFields (·.setIfInBounds 1 (Value.ref h2.objs.size)))) ⟨by simp[Heap.update],λb q=>Heap.get?_update_other _ _ (Ne.symm q)⟩ (Heap.get?_update_self _ he (Obj.isFreed_of_fields (bz mM))) ⟨(Obj.cls_mapFields _ _).trans pX,_,bz mM,by simp[hY]⟩ EC.nt
 exact hQ _ _ _ (k _ g _ (Sub.refl _) (F4.perm (List.Perm.swap ..)))
theorem ze{e:Addr}{R:Result->Heap->Prop}(B:Ab A env L ρ)(F:Fx ρ g L m ((e,E0)::l) h)(k:∀T' g' h',Sub g g'->Fx ρ g' L m (X e T'++l) h'->R (.error (.ref e)) h'):Lv A env R (.ref e) h:=by
 unfold Lv leaving
 refine Wp.bind (uG B F λT' g' h' S F'=>?_)
 exact dM F' λh2 F2=>k T' g' h2 S F2
theorem vO{e:Addr}(B:Ab A env L ρ)(F:Fx ρ g L m ((e,E0)::l) h)(k:∀T' g' h',Sub g g'->Fx ρ g' L m (X e T'++l) h'->E (.ref e) h'):fB A env E (.ref e) h:=by
 unfold fB
 refine uG B F λT' g' h' S F'=>?_
 refine Wp.bind (m:=field (.ref e) 1) ?_
 refine .of ?_;intro gg d kk o Q' E' hQ hE
 obtain⟨oe,he,pX,vs,mM,h1⟩:=F'.get (a:=e) (p:=EC T') List.mem_cons_self
 refine wpAny_field he mM h1 (hQ _ _ _ ?_)
 try dsimp only
 refine(if_neg (show ¬((Value.ref T'==Value.none)=true) from by simp)).symm▸?_
 exact dM F' λh2 F2=>k T' g' h2 S F2
def Ao(A:Around)(ρ:List (Addr×Obj)):Prop:=(adr ρ).Nodup/\∃outer,A.frames=some outer/\Fl outer ρ
theorem Ab.of{fd:FuncData}{f:Addr}{A1:Around}(x:Ao A ρ)(e:env=callEnv fd L f)(e1:A1=A.deeper env)(O:Ev env L ns gs):Ab A1 env L ρ:=by
 obtain⟨nd,outer,h1,h2⟩:=x
 have fr:env.frame=some L:=by refine e.symm▸?_;rfl
 exact⟨nd,fr,O.kind,env,outer,by refine e1.symm▸?_;exact Around.frames_deeper h1,fr,O.kind,h2⟩
theorem Ab.H7{fd:FuncData}{f:Addr}{A1:Around}(x:Ao A ρ)(e:env=callEnvC fd L f)(e1:A1=A.deeper env)(O:Ev env L ns gs):Ab A1 env L ρ:=by
 obtain⟨nd,outer,h1,h2⟩:=x
 have fr:env.frame=some L:=by refine e.symm▸?_;rfl
 exact⟨nd,fr,O.kind,env,outer,by refine e1.symm▸?_;exact Around.frames_deeper h1,fr,O.kind,h2⟩
theorem Ab.comp{scope:Scope}{cl:List (Str×Addr)}{C:Addr}(x:Ab A env L ρ)(hk:scope.kind= .function):Ab A (compEnvC scope cl C env) L ρ:=⟨x.nd,x.fr,hk,x.ar⟩
theorem Ab.ao{oL:Obj}(x:Ab A env L ρ)(F:Fx ρ g L m l h)(e:h.get? L=some oL):Ao A ((L,oL)::ρ):=by
 obtain⟨nd,hf,hk,bZ,outer,sY,eS,lB,nY⟩:=x
 refine A2 (id F.ns) λo es ep i9 Gw r=>?_
 replace i9:=e▸i9;cases i9
 exact⟨List.nodup_cons.mpr ⟨F.cz.2,nd⟩,bZ::outer,sY,.cons lB eS (λvs q=>by replace q:=Gw▸q;cases q) (aS F.ns e) nY⟩
inductive RU(ρ:List (Addr×Obj))(g:Heap)(L:Addr)(l:List Cell)(h:Heap):Prop
 |mk (o:Obj) (G:Heap) (e:h.get? L=some o) (x:Gr ((L,o)::ρ) G h l) (s:Sub g G)
theorem Fx.BF(F:Fx ρ g L m (l₀++l) h):RU ρ g L l h:=by
 refine A2 (id F.ns) λoL es ep i9 Gw r=>?_
 have inl:∀b,b∈adr l->b∈adr (l₀++l):=λb hb=>by refine aq.symm▸?_;exact List.mem_append_right _ hb
 refine⟨oL,hideAll h (adr l++L::adr ρ),i9,⟨F.own.of_append.2,λb o e=>of_hideAll _ e,λb hb=>hideAll_none _ (List.mem_append_left _ hb),λb hb=>hideAll_none _ (List.mem_append_right _ hb),λb hb hr=>?_,λp hp=>?_,λb o e h1 h2=>hideAll_get _ e λq=>(List.mem_append.mp q).elim h1 h2⟩,λb o e=>hideAll_get _ (F.keep _ _ e) λq=>?_⟩
 ·rcases List.mem_cons.mp hr with q|q
  ·exact F.cz.1 (inl _ (show L∈adr l from (show b=L from q)▸hb))
  ·exact F.cS _ (inl _ hb) q
 ·rcases List.mem_cons.mp hp with rfl|hp
  ·exact⟨trivial,oL.slots,by simpa using i9⟩
  ·exact F.fr p hp
 ·rcases List.mem_append.mp q with q|q
  ·replace e:=(F.bo _ (inl _ q))▸e;cases e
  ·rcases List.mem_cons.mp q with q|q
   ·replace e:=F.dz▸q▸e;cases e
   ·replace e:=(F.bH _ q)▸e;cases e
theorem Fx.jr{oL:Obj}(F:Fx ρ g L m (l₀++l) h)(e:h.get? L=some oL)(s:Step ((L,oL)::ρ) l h l' h'):Nx ρ g L m (l₀++l') h':=by
 have sY:Frs ρ h':=λp hp=>s.fr p (List.mem_cons_of_mem _ hp)
 obtain⟨ζ,sl,e'⟩:=s.fr (L,oL) List.mem_cons_self
 have:=Fx.mid (l₀:=l₀) (l₁:=[]) (by simpa using F) s (pW F.ns e e') sY λb hb=>List.mem_cons.mp hb
 simpa using this
end
section
variable{A:Around}{E:Value->Heap->Prop}{h h' g:Heap}{env:Env}{L:Addr}{m:Str->Option Value}{ρ:List (Addr×Obj)}{l l' l₀ l₁:List Cell}{ns gs:List Str}{vs:List (Option Value)}
theorem H8{body:List Stmt}{x:Str}{np LV pos:Pos}{vP:Stmt}{Q:Flow->Heap->Prop}{E₁:Value->Heap->Prop}(O:Ev env L ns gs)(hx:x∈gs)(hv:(x,Value.ref 67)∈kR)(B:Ab A env L ρ)
  (k:Wp A (execs body env) Q E₁ h)
  (c:∀e h1,E₁ e h1->∃ea T g vs l,e= .ref ea/\Gd g/\Fx ρ g L (mv ns vs) (X ea T++l) h1/\
   ∀T' g' h',Sub g g'->Fx ρ g' L (mv ns vs) (X ea T'++l) h'->Wp (A.mark (some (.ref ea))) (execs [vP] env) Q (λζ ζ=>False) h'):
  Wp A (exec (.Try body [.ExceptHandler (some (.Name x np)) none [vP] LV] [] [] pos) env) Q E h:=by
 refine .of ?_;intro gg d kk o Q' E' hQ hE
 refine wpAny_Try_except ?_
 refine Wp.go k gg d kk o _ _ (λf h1 k1 q=>?_) λe h1 k1 q=>?_
 ·cases f with
  |next=>exact wpAny_execs_nil (hQ _ _ _ q)
  |brk=>exact hQ _ _ _ q
  |cont=>exact hQ _ _ _ q
  |ret v=>exact hQ _ _ _ q
 ·refine Rf (c e h1 q) λea T g vs l ak G F cc=>?_
  obtain rfl:=ak
  refine(nX B F (Q:=λζ h'=>∃T' g',Sub g g'/\Fx ρ g' L (mv ns vs) (X ea T'++l) h') (E:=λζ ζ=>False) (λT' g' h' S F'=>⟨T',g',S,F'⟩)).go gg d k1 o _ _ (λζ h2 k2 q=>?_) λζ ζ ζ q=>q.elim
  refine dm q λT2 g2 S2 F2=>?_
  clear q
  refine(dM F2 (Q:=λζ h'=>Fx ρ g2 L (mv ns vs) (X ea T2++l) h') (E:=λζ ζ=>False) (λh' F'=>F')).go gg d k2 o _ _ (λζ h3 k3 F3=>?_) λζ ζ ζ q=>q.elim
  have G3:=(G.up S2).up F3.keep
  have Dh:h3.get? 67=some H3:=cF G3
  obtain⟨oe,he,pX,ζ⟩:=F3.get (a:=ea) (p:=EC T2) List.mem_cons_self
  refine wpAny_handleBy_cons (codeAny_handlers_test ?_) (by intro q;cases q)
  refine(yI O F3 (G.up S2) hx hv (Q:=λv h'=>v= .ref 67/\h'=h3) (E:=λζ ζ=>False) ⟨rfl,rfl⟩).go gg d k3 o _ _ (λv h4 k4 q=>?_) λζ ζ ζ q=>q.elim
  refine i_ q λak iO=>?_
  clear q
  obtain rfl:=ak
  obtain rfl:=iO
  refine wpAny_excMatches_sub_self Dh he pX (by decide) ?_
  show codeAny _ _ _ _ _
  refine codeAny_handlers_suite ?_
  refine(dM F3 (Q:=λζ h'=>Fx ρ g2 L (mv ns vs) (X ea T2++l) h') (E:=λζ ζ=>False) (λh' F'=>F')).go gg d k4 o _ _ (λζ h5 k5 F5=>?_) λζ ζ ζ q=>q.elim
  refine(cc T2 g2 h5 S2 F5).go gg d k5 o _ _ (λf h6 k6 q=>?_) λζ ζ ζ q=>q.elim
  exact hQ _ _ _ q
end
def Tb(ps:Array Value):Obj->Prop:=λo=>o=tabObj ps
theorem Tb.nt{ps:Array Value}:∀o,Tb ps o->isTup o=false:=λo h=>by refine(show o=_ from h).symm▸?_;rfl
def aM(g:Heap)(qual:Str)(ps:Array Value):Prop:=TriplesOk ps.toList/\∀pos v,codeAmong pos ps.toList=some v->∃c',v= .ref c'/\g.CodeRec (.ref c') qual
theorem aM.up{g h:Heap}{qual:Str}{ps:Array Value}(x:aM g qual ps)(s:Sub g h):aM h qual ps:=⟨x.1,λpos v e=>let⟨c',e1,r⟩:=x.2 pos v e;⟨c',e1,r.keeps s⟩⟩
theorem s9(pos:Pos)(a b:Int)(c:Value)(l:List Value)(h:TriplesOk l):∀v,codeAmong pos (l++[rawInt a,rawInt b,c])=some v->codeAmong pos l=some v\/v=c:=by
 fun_induction TriplesOk l with
 |case1=>
  intro v e
  simp only[List.nil_append,rawInt,codeAmong] at e
  split at e
  ·cases e;exact .inr rfl
  ·cases e
 |case2 a' t b' u x rest ih=>
  intro v e
  simp only[List.cons_append,codeAmong] at e ⊢
  split at e
  ·rename_i q;refine(if_pos q).symm▸?_;exact .inl e
  ·rename_i q;refine(if_neg q).symm▸?_;exact ih h v e
 |case3 l h1 h2=>exact h.elim
theorem aM.snoc{g:Heap}{qual:Str}{ps:Array Value}{a b:Int}{c:Addr}(x:aM g qual ps)(r:g.CodeRec (.ref c) qual):aM g qual (ps++#[rawInt a,rawInt b,.ref c]):=by
 have e:(ps++#[rawInt a,rawInt b,.ref c]).toList=ps.toList++[rawInt a,rawInt b,.ref c]:=by simp
 refine⟨by refine e.symm▸?_;exact TriplesOk_snoc _ _ _ _ x.1,λpos v q=>?_⟩
 replace q:=e▸q
 rcases s9 pos a b (.ref c) ps.toList x.1 v q with h|rfl
 ·exact x.2 pos v h
 ·exact⟨c,rfl,r⟩
section
variable{A:Around}{E:Value->Heap->Prop}{h h' g:Heap}{env:Env}{L:Addr}{m:Str->Option Value}{ρ:List (Addr×Obj)}{l l' l₀ l₁:List Cell}{ns gs:List Str}{vs:List (Option Value)}
theorem Fx.mO(F:Fx ρ g L m l h)(o:Obj)(ht:isTup o=false)(hf:o.isFreed=false:=by rfl):Pg ρ g L m l (h.push o) h.objs.size o:=by
 have F1:=F.push o (p:=λx=>x=o) rfl (λx e=>by refine e.symm▸?_;exact ht) hf
 obtain⟨g',S,k,F2⟩:=Fx.weak (l':=l) F1 (.cons _ (List.Sublist.refl _))
 obtain⟨o',e,rfl⟩:=k _ List.mem_cons_self F.own.fresh
 exact⟨g',S,e,F2⟩
theorem Gd.O1{mg mb:Str->Option Value}(G:o8 mg mb g){P:Addr}(hP:P≠4):g.BuiltinsAt mg P:=
 ⟨4,boot_o_4 w.params,(G.Eb "__builtins__").trans (by kernel_rfl),by decide,by decide,hP.symm,G.C1 (4,boot_o_4 w.params) (List.mem_of_getElem? (i:=141) rfl),rfl,rfl,rfl⟩
theorem zf{params:Arguments}{body:Expr}{scope:Scope}{pos:Pos}{c P:Addr}{ps:Array Value}{s_:List (Str×Addr)}{l':Array Value->List Cell}{Q:Value->Heap->Prop}
  (O:Ev env L ns gs)(F:Fx ρ g L m l h)(G:Gd g)(EJ:defaultsOf params env=([],[]))(uH:env.code= .ref c)(C:CodeHd g c P)(J1:P≠4)(LW:mainGlobals≠P)(u:∀aI,dA P (Tb ps) (Tb aI) l (l' aI))(ht:aM g (env.qual++"<lambda>") ps)
  (j4:closureFor scope env=pure s_)
  (k:∀f c' pm ek aI g' h',Sub g g'->aM g' (env.qual++"<lambda>") aI->g'.get? f=some (kla_obj "<lambda>" (env.qual++"<lambda>") params body scope s_ pm c' ek)->g'.CodeRec (.ref c') (env.qual++"<lambda>")->Fx ρ g' L m (l' aI) h'->Q (.ref f) h'):Wp A (eval (.Lambda params body scope pos) env) Q E h:=by
 refine .of ?_;intro gg d kk o Q' E' hQ hE
 refine kla_eval EJ ?_
 refine nE (id G) λmg mb G0=>?_
 have Gh:=G0.up F.keep
 have mem:(P,Tb ps)∈l:=by obtain⟨l₀,l₁,e,ζ⟩:=(u ps).split;refine e.symm▸?_;exact List.mem_append_right _ List.mem_cons_self
 obtain⟨oP,hP,e⟩:=F.get mem
 replace hP:=(show oP=_ from e)▸hP
 have nf:∀(oc:Obj) (fd:FuncData),oc.data= .func fd->isTup oc=false:=λoc fd e=>by
  unfold isTup;refine e.symm▸?_;split <;> simp_all
 cases q:codeAmong pos ps.toList with
 |some cv=>
  refine aU (ht.2 pos cv q) λc' ak hr=>?_
  obtain rfl:=ak
  refine kla_makeFunctionHit (s:=⟨h,gg,d,kk,o⟩) j4 O.AK Gh.glob uH (C.keeps F.keep) hP ht.1 q (Gd.O1 Gh J1) λek h1 tk kp hY=>?_
  obtain⟨g1,S1,F1⟩:=F.ext kp
  obtain⟨g2,S2,e2,F2⟩:=F1.mO (kla_obj "<lambda>" (env.qual++"<lambda>") params body scope s_ ((mg "__name__").getD .none) c' ek) (nf _ _ rfl)
  have e3:l' ps=l:=by
   have key:∀{a b:List Cell},dA P (Tb ps) (Tb ps) a b->b=a:=λx=>by
    induction x with
    |hd=>rfl
    |tl _ ih=>rw[ih]
   exact key (u ps)
  exact hQ _ _ _ (k _ c' _ ek ps g2 _ (S1.trans S2) (ht.up (S1.trans S2)) e2 (hr.keeps (S1.trans S2)) (e3▸F2))
 |none=>
  refine kla_makeFunction (s:=⟨h,gg,d,kk,o⟩) j4 O.AK Gh.glob uH (C.keeps F.keep) hP ht.1 q LW (Gd.O1 Gh J1) λc' ek h1 tk hx RV kj hr RX=>?_
  refine dm ((u (ps++#[rawInt pos.line,rawInt pos.col,.ref c'])).split) λl₀ l₁ e1 e2=>?_
  replace F:=e1▸F
  have PL:L≠P:=λz=>F.cz.1 (by refine z.symm▸?_;exact ax (p:=(P,Tb ps)) (List.mem_append_right _ List.mem_cons_self))
  obtain⟨g1,S1,F1⟩:=Fx.u_ (l₀:=l₀) (l:=[(P,Tb ps)]) (l₁:=l₁) (l':=[(P,Tb (ps++#[rawInt pos.line,rawInt pos.col,.ref c']))]) F (λb ob z h1 ζ ζ=>hx b ob (λy=>h1 (by refine y.symm▸?_;exact List.mem_cons_self)) z)
   ⟨λp hp=>by refine(List.mem_singleton.mp hp).symm▸?_;exact⟨_,RX,rfl⟩,by simp[adr],λp hp=>by refine(List.mem_singleton.mp hp).symm▸?_;exact Tb.nt⟩ (λp hp=>.inl (by refine(List.mem_singleton.mp hp).symm▸?_;exact List.mem_cons_self)) (f6 F.ns λob z=>hx _ _ PL z) λp hp=>by
    obtain⟨n,sl,e⟩:=F.fr p hp
    exact⟨n,sl,hx _ _ (λy=>F.cS P (ax (p:=(P,Tb ps)) (List.mem_append_right _ List.mem_cons_self)) (y▸ax hp)) e⟩
  have AM:g1.CodeRec (.ref c') (env.qual++"<lambda>"):=by
   refine Rk hr λc2 oc vs tq LX hc hd hq=>?_
   clear hr
   cases LX
   have hn:h.get? c'=none:=Heap.get?_none_of_le RV
   refine⟨c',oc,vs,tq,rfl,F1.max c' oc hc (λz=>?_) (λz=>?_) λz=>?_,hd,hq⟩
   ·refine jH F.ns λoL ζ ζ i9 ζ=>?_
    replace i9:=hn▸z.symm▸i9;cases i9
   ·have z':c'∈adr (l₀++(P,Tb ps)::l₁):=by simpa[adr] using z
    refine aP (f5 z') λp hp=>?_
    obtain⟨o',h1,ζ⟩:=F.own.at' _ hp
    replace h1:=hn▸h1;cases h1
   ·refine aU (List.mem_map.mp z) λp hp e=>?_
    obtain⟨ζ,sl,h1⟩:=F.fr p hp
    replace h1:=hn▸e▸h1;cases h1
  obtain⟨g2,S2,e4,F2⟩:=F1.mO (kla_obj "<lambda>" (env.qual++"<lambda>") params body scope s_ ((mg "__name__").getD .none) c' ek) (nf _ _ rfl)
  refine hQ _ _ _ (k _ c' _ ek (ps++#[rawInt pos.line,rawInt pos.col,.ref c']) g2 _ (S1.trans S2) ((ht.up (S1.trans S2)).snoc (AM.keeps S2)) e4 (AM.keeps S2) ?_)
  refine e2.symm▸?_
  exact F2
theorem zg{f c':Addr}{qual:Str}{params:Arguments}{body:Expr}{scope:Scope}{cl:List (Str×Addr)}{pm ek:Value}{gs:List Str}{R:Result->Heap->Prop}{r:Nat}(x:Gr ρ g h l)(G:Gd g)(hA:Rm A (r+1))
  (ho:g.get? f=some (kla_obj "<lambda>" qual params body scope cl pm c' ek))(i8:g.CodeRec (.ref c') qual)(bB:bindArgs (kla_fn "<lambda>" qual params body scope cl pm (.ref c') ek) ⟨[],[]⟩=pure [])
  (g_:(ij (kla_fn "<lambda>" qual params body scope cl pm (.ref c') ek) [] gs&&scope.names.all (λy=>y.2 !=.cell)&&!scope.isCoroutine&&!scope.isGenerator)=true)
  (k:∀L g' h' env A1,env=callEnv (kla_fn "<lambda>" qual params body scope cl pm (.ref c') ek) L f->A1=A.deeper env->Rm A1 r->Ev env L [] gs->Sub g g'->Fx ρ g' L (mv [] []) l h'->Wp A1 (eval body env) (λv h=>R (.ok (.ret v)) h) (Lv A1 env R) h'):Cd A (.call (.ref f) ⟨[],[]⟩) R h:=by
 simp only[Bool.and_eq_true,Bool.not_eq_true'] at g_
 obtain⟨⟨⟨h1,h2⟩,h3⟩,h4⟩:=g_
 have O:=λ(L f:Addr)=>um (L:=L) (f:=f) h1
 refine .of ?_;intro gg d kk o R' hR
 refine kla_callFunE (s:=⟨h,gg,d,kk,o⟩) hA.room (x.sub _ _ ho) rfl h3 h4 rfl (i8.keeps x.sub) ?_
 refine bB.symm▸?_
 refine wpAny_pure (wpAny_newFunctionEnv (s:=⟨h,gg,d,kk,o⟩) (λy hy e=>by have:=List.all_eq_true.mp h2 y hy;replace this:=e▸this;cases this) (λy hy=>nomatch hy) (λh₁ fY AN=>⟨(G.up x.sub).lim.fresh _ AN,?_⟩) (O 0 0).kind)
 have kp:Sub h h₁:=λb ob e=>AN.extBut b ob (Nat.ne_of_lt (Heap.lt_size e)) (Heap.get?_push_of_some _ e)
 obtain⟨g',hs,F⟩:Nx ρ g h.objs.size (mv [] []) l h₁:=by
  refine Fx.grow g ?_ (x.own.ups kp) (x.fr.ups kp) (x.sub.trans kp) x.sub.fresh x.bo x.bH ⟨x.own.fresh,x.fr.fresh⟩ x.cS
  have e:(λy=>List.lookup y (([]:List (Str×Value)).reverse))=mv [] []:=by funext y;rfl
  refine e▸?_;exact fY
 refine kla_codeExpr ?_
 exact(k h.objs.size g' h₁ _ _ rfl rfl hA.deeper (O _ f) hs F).go gg d _ o _ _ (λv h1 k1 q=>hR _ _ _ q) (λe h1 k1 q=>Wp.go q gg d k1 o _ _ (λζ h2 k2 z=>hR _ _ _ z) (λe' h2 k2 z=>hR _ _ _ z))
theorem EK{x:Str}{c:Addr}{pos:Pos}{v:Value}{Q:Value->Heap->Prop}(hk:env.scope.kind= .function)(hf:env.kindOf x=some .free)(hd:(x==("__debug__":Str))=false&&(x==("__classdict__":Str))=false)(hc:env.cells.lookup x=some c)(hv:Ck h c v)(k:Q v h):Wp A (eval (.Name x pos) env) Q E h:=.of λgg d kk o Q' E' hQ hE=>by
 exact wpAny_Name (wpAny_loadName_free (s:=⟨h,gg,d,kk,o⟩) hk hf hc (Gt.ex hv) (hQ _ _ _ k) (by have:=hd;simp only[Bool.and_eq_true,decide_eq_true_eq] at this;exact this.2)) (by have:=hd;simp only[Bool.and_eq_true,decide_eq_true_eq] at this;exact this.1)
theorem Gr.cell{G:Heap}{oL:Obj}{a:Addr}{p:Obj->Prop}(F:Fx ρ g L m (l₀++l) h)(x:Gr ((L,oL)::ρ) G h l)(hm:(a,p)∈l₀):Gt G a p:=by
 obtain⟨o,e,hp⟩:=F.get (List.mem_append_left _ hm)
 have nd:=F.own.nd
 replace nd:=aq▸nd
 refine⟨o,x.max a o e (λq=>(List.nodup_append.mp nd).2.2 a (ax hm) a q rfl) λq=>?_,hp⟩
 rcases List.mem_cons.mp q with q|q
 ·exact F.cz.1 (by refine(show a=L from q)▸?_;exact ax (List.mem_append_left _ hm))
 ·exact F.cS _ (ax (List.mem_append_left _ hm)) q
end
theorem lD(P:Params):[638,732].map (λC=>(makesIn (K P) C,keepIn (K P) (.ref C)))=[638,732].map λζ=>(true,true):=by kernel_rfl
theorem zh(P:Params):[(638,537),(732,654)].map (λp=>(findIn (K P) (.ref p.1) "__init__",typeIn (K P) (.ref p.2)))=[(638,537),(732,654)].map λp=>(some (some (Value.ref p.2)),some (Value.type "function")):=by kernel_rfl
section
variable{A:Around}{E:Value->Heap->Prop}{h h' g:Heap}{env:Env}{L:Addr}{m:Str->Option Value}{ρ:List (Addr×Obj)}{l l' l₀ l₁:List Cell}{ns gs:List Str}{vs:List (Option Value)}
theorem zj{C fI:Addr}{args:List Value}{Q:Value->Heap->Prop}(hC:(C,fI)∈[(638,537),(732,654)])(F:Fx ρ g L m l h)(G:Gd g)
  (k:∀x dx g' h',Sub g g'->g'.get? x=some (instObj C dx)->Fx ρ g' L m ((dx,So w.params [])::l) h'->
   Cd (A.under (.builtin "type.__call__" ⟨.ref C::args,[]⟩)) (.call (.ref fI) ⟨.ref x::args,[]⟩) (λr h2=>match r with| .ok (.ret v)=>v= .none/\Q (.ref x) h2| .ok _=>False| .error e=>E e h2) h'):Wp A (call (.ref C) args) Q E h:=by
 refine Wp.call ?_
 refine .of ?_;intro gg d kk o R' hR
 have X:=(G.up F.keep).nR
 have e1:=a_ (zh w.params) _ hC
 simp only[Prod.mk.injEq] at e1
 have Dh:C∈[638,732]:=by
  rcases List.mem_cons.mp hC with q|q
  ·cases q;decide
  ·rcases List.mem_cons.mp q with q|q
   ·cases q;decide
   ·cases q
 have e2:=a_ (lD w.params) _ Dh
 simp only[Prod.mk.injEq] at e2
 refine make_core (makes_of X e2.1) (looks_findIn X e1.1) (λself=>bind_fn X self e1.2) (.inl rfl) ?_
 have F1:=F.push emptyDict (p:=So w.params []) (So.of (es:=[]) (n:=0) .nil) So.nt
 obtain⟨g2,S2,e3,F2⟩:=F1.mO (instObj C h.objs.size) rfl
 have sz:(h.push emptyDict).objs.size=h.objs.size+1:=Heap.size_push ..
 replace e3:=sz▸e3
 refine(k (h.objs.size+1) h.objs.size g2 _ S2 e3 F2).go gg d kk o _ λr h2 k2 q=>?_
 cases r with
 |error e=>exact hR _ _ _ q
 |ok f=>
  cases f with
  |ret v=>
   obtain⟨rfl,q⟩:=q
   exact⟨rfl,hR (.ok (.ret (.ref (h.objs.size+1)))) _ _ q⟩
  |_=>exact q.elim
theorem vQ{pos:Pos}{C:Addr}{e:Expr}{rest:List Expr}{Q:Value->Heap->Prop}(hC:C∈[638,732])
  (x:Wp A (spliced (backTo pos (starEach (e::rest) env))) (λvs h1=>Gd h1/\Wp A (call (.ref C) vs) Q E h1) E h)
  (he:starEach (e::rest) env=(false,eval e env)::starEach rest env:=by rfl)(hp:(backTo pos (starEach rest env)).any (·.1)=false:=by rfl):Wp A (callWith pos (.ref C) [] (backTo pos (starEach (e::rest) env)) []) Q E h:=by
 have e2:=a_ (lD w.params) _ hC
 simp only[Prod.mk.injEq] at e2
 exact n7 (P:=Gd) (λh' G'=>keeps_K e2.2 h' G'.nR) x he hp
theorem tg{pos:Pos}{C:Addr}{Q:Value->Heap->Prop}(hC:C∈[638,732])(G:Gd h)
  (x:Wp A (call (.ref C) []) Q E h):Wp A (callWith pos (.ref C) [] (backTo pos (starEach [] env)) []) Q E h:=by
 have e2:=a_ (lD w.params) _ hC
 simp only[Prod.mk.injEq] at e2
 exact qf (keeps_K e2.2 h G.nR) x
theorem lE{C dx:Addr}:Io C dx (instObj C dx):=⟨rfl,rfl,rfl⟩
end
section
variable{A:Around}{E:Value->Heap->Prop}{h h' g:Heap}{env:Env}{L:Addr}{m:Str->Option Value}{ρ:List (Addr×Obj)}{l l' l₀ l₁:List Cell}{ns gs:List Str}{vs:List (Option Value)}
theorem EL(P:Params):keepIn (K P) (.ref 67)=true:=by kernel_rfl
theorem uA{pos:Pos}{e:Expr}{rest:List Expr}{Q:Value->Heap->Prop}
  (x:Wp A (spliced (backTo pos (starEach (e::rest) env))) (λvs h1=>Gd h1/\Wp A (call (.ref 67) vs) Q E h1) E h)
  (he:starEach (e::rest) env=(false,eval e env)::starEach rest env:=by rfl)(hp:(backTo pos (starEach rest env)).any (·.1)=false:=by rfl):Wp A (callWith pos (.ref 67) [] (backTo pos (starEach (e::rest) env)) []) Q E h:=
 n7 (P:=Gd) (λh' G'=>keeps_K (EL w.params) h' G'.nR) x he hp
theorem len_lit1:(Str.ofString ": ").length=2:=by decide +kernel
theorem len_lit2:(Str.ofString " is wanted, not ").length=16:=by decide +kernel
theorem nU:Str.empty.length=0:=by decide +kernel
theorem len_app(x y:Str):(x++y).length=x.length+y.length:=strLen_append x y
theorem Lu{y:Str}{t:Tok}{B P:Str->Prop}(b:B y)(p:P y):∃y' t',Value.str y t= .str y' t'/\B y'/\P y':=⟨y,t,rfl,b,p⟩
theorem Ln{y:Str}{t:Tok}{B:Str->Prop}{P:Str->Tok->Prop}(b:B y)(p:∀t,P y t):∃y' t',Value.str y t= .str y' t'/\B y'/\∀t,P y' t:=⟨y,t,rfl,b,p⟩
theorem Ew{H9 H':Expr}{rest:List Expr}{pos:Pos}{Q:Value->Heap->Prop}(x:Wp A (joinParts Str.empty (eval H9 env::eval H' env::evalEach rest env)) Q E h):Wp A (eval (.JoinedStr (H9::H'::rest) pos) env) Q E h:=
 .of λg d k o Q' E' hQ hE=>JoinedStr_many (x.go g d k o Q' E' hQ hE)
theorem Lm{out:Str}{e:Sem Value}{rest:List (Sem Value)}{Q:Value->Heap->Prop}(x:Wp A e (λv h1=>∃y t,v= .str y t/\(out++y).length<=100000/\Wp A (joinParts (out++y) rest) Q E h1) E h):Wp A (joinParts out (e::rest)) Q E h:=
 .of λg d k o Q' E' hQ hE=>joinParts_cons (x.go g d k o _ _ (λv h1 k1 q=>by
  obtain⟨y,t,rfl,hz,q⟩:=q
  exact⟨Nat.le_trans hz (by decide),Wp.go q g d k1 o Q' E' hQ hE⟩) hE)
theorem HM{out:Str}{e:Expr}{rest:List Expr}{Q:Value->Heap->Prop}(x:Wp A (joinParts out (eval e env::evalEach rest env)) Q E h):Wp A (joinParts out (evalEach (e::rest) env)) Q E h:=x
theorem HL{out:Str}{env:Env}{Q:Value->Heap->Prop}(hz:out.length<=100000)(x:∀t,Q (.str out t) h):Wp A (joinParts out (evalEach [] env)) Q E h:=
 .of λg d k o Q' E' hQ hE=>joinParts_nil (hQ _ _ _ (x _)) (Nat.le_trans hz (by decide))
theorem HJ{value:Expr}{pos:Pos}{Q:Value->Heap->Prop}(x:Wp A (eval value env) (λv h1=>∃y t,v= .str y t/\y.length<=100000/\∀t,Q (.str y t) h1) E h):Wp A (eval (.FormattedValue value (-1) none pos) env) Q E h:=
 .of λg d k o Q' E' hQ hE=>FormattedValue_plain (x.go g d k o _ _ (λv h1 k1 q=>by
  obtain⟨y,t,rfl,hz,q⟩:=q
  exact formatField_str (λt' tk=>hQ _ _ _ (q t')) (Nat.le_trans hz (by decide))) hE)
theorem jt{e:Addr}{P:Value->Heap->Prop}(F:Fx ρ g L m ((e,E0)::l) h)(G:Gd h)(k:P (.ref e) h):∃e',Value.ref e= .ref e'/\(Gt h e' E0)/\Gd h/\P (.ref e') h:=⟨e,rfl,F.get List.mem_cons_self,G,k⟩
end
structure Iter(g:Heap)(it:Addr)(dW:Nat->Obj->Prop)(n:Nat)(P:Nat->Value->Prop):Prop where
 nt:∀i o,dW i o->isTup o=false
 item:∀{A:Around} {E:Value->Shared->Prop} {h:Heap} {gg:Array GenState} {d:Drawn} {k:Nat} {os:OsState} {i:Nat} {Q:Option Value->Shared->Prop},i<n->Sub g h->(Gt h it (dW i))->
  (∀v h2 k2,P i v->(Gt h2 it (dW (i+1)))->Heap.SameBut it h h2->Q (some v) ⟨h2,gg,d,k2,os⟩)->wpAny (model PW w) A (pyNext (.ref it)) Q E ⟨h,gg,d,k,os⟩
 last:∀{A:Around} {E:Value->Shared->Prop} {h:Heap} {gg:Array GenState} {d:Drawn} {k:Nat} {os:OsState} {Q:Option Value->Shared->Prop},A.handled=none->Sub g h->(Gt h it (dW n))->
  (∀h2,Heap.ExtBut it h h2->Q none ⟨h2,gg,d,k,os⟩)->wpAny (model PW w) A (pyNext (.ref it)) Q E ⟨h,gg,d,k,os⟩
 again:∀{A:Around} {E:Value->Shared->Prop} {h:Heap} {gg:Array GenState} {d:Drawn} {k:Nat} {os:OsState} {i:Nat} {Q:Value->Shared->Prop},Sub g h->(Gt h it (dW i))->Q (.ref it) ⟨h,gg,d,k,os⟩->wpAny (model PW w) A (pyIter (.ref it)) Q E ⟨h,gg,d,k,os⟩
 go:∀{A:Around} {E:Value->Shared->Prop} {h:Heap} {gg:Array GenState} {d:Drawn} {k:Nat} {os:OsState} {i:Nat} {t:Expr} {v:Value} {Q:Unit->Shared->Prop},(Gt h it (dW i))->Q () ⟨h,gg,d,k,os⟩->wpAny (model PW w) A (letOwnedTupleGo t (.ref it) v) Q E ⟨h,gg,d,k,os⟩
theorem Iter.up{g g':Heap}{it:Addr}{dW:Nat->Obj->Prop}{n:Nat}{P:Nat->Value->Prop}(x:Iter g it dW n P)(s:Sub g g'):Iter g' it dW n P:=
 ⟨x.nt,λa b c d=>x.item a (s.trans b) c d,λa b c d=>x.last a (s.trans b) c d,λa b c=>x.again (s.trans a) b c,λa b=>x.go a b⟩
def Src(g:Heap)(v:Value)(n:Nat)(P:Nat->Value->Prop):Prop:=∃(dW:Nat->Obj->Prop) (ob:Obj),dW 0 ob/\ob.isFreed=false/\(∀it,Iter g it dW n P)/\
 ∀{A:Around} {E:Value->Shared->Prop} {h:Heap} {gg:Array GenState} {d:Drawn} {k:Nat} {os:OsState} {Q:Value->Shared->Prop},Sub g h->Q (.ref h.objs.size) ⟨h.push ob,gg,d,k,os⟩->wpAny (model PW w) A (pyIter v) Q E ⟨h,gg,d,k,os⟩
theorem Src.list{g:Heap}{a:Addr}{xs:List Value}(hl:Ls g a xs):Src g (.ref a) xs.length (λi v=>xs[i]? =some v):=by
 refine⟨Lit a,{cls:=.type "list_iterator",data:=.fields #[.ref a,.int 0 0]},⟨rfl,rfl⟩,rfl,λit=>⟨λi=>Lit.nt,λ{A E h gg d k os i Q} hi s hit q=>?_,λ{A E h gg d k os Q} hh s hit q=>?_,λ{A E h gg d k os i Q} s hit q=>?_,λ{A E h gg d k os i t v Q} hit q=>?_⟩,λ{A E h gg d k os Q} s q=>?_⟩
 ·obtain⟨o,e,p1,p2⟩:=hit
  obtain⟨ol,el,pl⟩:=hl.up s
  refine wpAny_pyNext_list_item (s:=⟨h,gg,d,k,os⟩) ⟨o,e,p1,p2⟩ (pl.isList el) (x:=xs[i]) (by simp[hi]) λh2 j5 fZ=>?_
  refine aU j5 λo2 e2 p2=>?_
  clear j5
  exact q _ _ _ (by simp[hi]) ⟨o2,e2,p2⟩ fZ
 ·obtain⟨o,e,p1,p2⟩:=hit
  obtain⟨ol,el,pl⟩:=hl.up s
  exact wpAny_pyNext_list_end (s:=⟨h,gg,d,k,os⟩) hh ⟨o,e,p1,p2⟩ (pl.isList el) (by simp) λh2 fZ=>q h2 fZ
 ·obtain⟨o,e,p1,p2⟩:=hit
  exact wpAny_pyIter_listiter (s:=⟨h,gg,d,k,os⟩) ⟨o,e,p1,p2⟩ q
 ·obtain⟨o,e,p1,p2⟩:=hit
  exact letGo_listiter (s':=⟨h,gg,d,k,os⟩) ⟨o,e,p1,p2⟩ q
 ·obtain⟨ol,el,pl⟩:=hl.up s
  exact wpAny_pyIter_list (s:=⟨h,gg,d,k,os⟩) (pl.isList el) q
def RY(a:Addr)(i:Nat):Obj->Prop:=λo=>o.cls= .type "tuple_iterator"/\o.data= .fields #[.ref a,.int i 0]
theorem Src.tup{g:Heap}{a:Addr}{xs:List Value}(hl:Tp g a xs):Src g (.ref a) xs.length (λi v=>xs[i]? =some v):=by
 refine⟨RY a,{cls:=.type "tuple_iterator",data:=.fields #[.ref a,.int 0 0]},⟨rfl,rfl⟩,rfl,λit=>⟨λi o h=>eR ⟨_,h.2⟩,λ{A E h gg d k os i Q} hi s hit q=>?_,λ{A E h gg d k os Q} hh s hit q=>?_,λ{A E h gg d k os i Q} s hit q=>?_,λ{A E h gg d k os i t v Q} hit q=>?_⟩,λ{A E h gg d k os Q} s q=>?_⟩
 ·obtain⟨o,e,p1,p2⟩:=hit
  refine aP (hl.up s.aj) λc el=>?_
  refine wpAny_pyNext_tuple_item (s:=⟨h,gg,d,k,os⟩) ⟨o,e,p1,p2⟩ ⟨_,el,rfl,c,rfl⟩ (x:=xs[i]) (by simp[hi]) λh2 j5 fZ=>?_
  refine aU j5 λo2 e2 p2=>?_
  clear j5
  exact q _ _ _ (by simp[hi]) ⟨o2,e2,p2⟩ fZ
 ·obtain⟨o,e,p1,p2⟩:=hit
  refine aP (hl.up s.aj) λc el=>?_
  exact wpAny_pyNext_tuple_end (s:=⟨h,gg,d,k,os⟩) hh ⟨o,e,p1,p2⟩ ⟨_,el,rfl,c,rfl⟩ (by simp) λh2 fZ=>q h2 fZ
 ·obtain⟨o,e,p1,p2⟩:=hit
  exact wpAny_pyIter_tupleiter (s:=⟨h,gg,d,k,os⟩) ⟨o,e,p1,p2⟩ q
 ·obtain⟨o,e,p1,p2⟩:=hit
  exact letGo_tupleiter (s':=⟨h,gg,d,k,os⟩) ⟨o,e,p1,p2⟩ q
 ·refine aP (hl.up s.aj) λc el=>?_
  exact wpAny_pyIter_tuple (s:=⟨h,gg,d,k,os⟩) ⟨_,el,rfl,c,rfl⟩ q
def Rg(n:Int):Obj->Prop:=λo=>∃t u v,o={cls:=.type "range",dict:=none,data:=.fields #[.int 0 t,.int n u,.int 1 v],slots:=#[]}
def LY(n:Nat)(i:Nat):Obj->Prop:=λo=>o={cls:=.type "range_iterator",dict:=none,data:=.fields #[rawInt (i:Nat),rawInt ((n:Int)-i),rawInt 1],slots:=#[]}
theorem Src.range{g:Heap}{r:Addr}{n:Nat}(hn:n<=100000)(hr:Gt g r (Rg n)):Src g (.ref r) n (λi v=>∃t,v= .int (i:Int) t):=by
 obtain⟨o,e,t,u,v,rfl⟩:=hr
 have hY:Builtin.Range.rangeSize 0 (n:Int) 1=n:=by refine(rangeSize_one ..).symm▸?_;split <;> lia
 refine⟨LY n,{cls:=.type "range_iterator",data:=.fields #[rawInt 0,rawInt (n:Int),rawInt 1]},by show _=_;simp[LY],rfl,λit=>⟨λi o h=>by refine(show o=_ from h).symm▸?_;rfl,λ{A E h gg d k os i Q} hi s hit q=>?_,λ{A E h gg d k os Q} hh s hit q=>?_,λ{A E h gg d k os i Q} s hit q=>?_,λ{A E h gg d k os i t v Q} hit q=>?_⟩,λ{A E h gg d k os Q} s q=>?_⟩
 ·obtain⟨o,e,rfl⟩:=hit
  refine wpAny_pyNext_range_item (s:=⟨h,gg,d,k,os⟩) (x:=(i:Int)) (left:=(n:Int)-i) (step:=1) e (by lia) λh2 j5 fZ=>?_
  exact q _ _ _ ⟨_,rfl⟩ ⟨_,j5,by unfold LY;congr 3;simp[rawInt];lia⟩ fZ
 ·obtain⟨o,e,rfl⟩:=hit
  exact wpAny_pyNext_range_end (s:=⟨h,gg,d,k,os⟩) hh e (by lia) λh2 fZ=>q h2 fZ
 ·obtain⟨o,e,rfl⟩:=hit
  exact wpAny_pyIter_rangeiter (s:=⟨h,gg,d,k,os⟩) e q
 ·obtain⟨o,e,rfl⟩:=hit
  unfold letOwnedTupleGo
  cases t <;> first
   |exact wpAny_pure q
   |(cases v <;> first
     |exact wpAny_pure q
     |(refine wpAny_bind (wpAny_load e ?_);exact wpAny_pure q))
 ·refine wpAny_pyIter_range (s:=⟨h,gg,d,k,os⟩) (s _ _ e) (small_one (by lia) (by lia) (by lia) (by lia)) ?_
  refine hY.symm▸?_
  exact q
section
variable{A:Around}{E E₁:Value->Heap->Prop}{h h' g:Heap}{env:Env}{L:Addr}{m:Str->Option Value}{ρ:List (Addr×Obj)}{l l':List Cell}
inductive Nf(ρ:List (Addr×Obj))(L:Addr)(c:Cell)(g:Heap)(I:Heap->(Str->Option Value)->List Cell->Prop)(h:Heap):Prop
 |mk (g2:Heap) (m2:Str->Option Value) (l2:List Cell) (F:Fx ρ g2 L m2 (c::l2) h) (S:Sub g g2) (i:I g2 m2 l2)
inductive Ny(ρ:List (Addr×Obj))(C:Addr)(m:Str->Option Value)(c c':Cell)(g:Heap)(I:Heap->List Cell->Prop)(h:Heap):Prop
 |mk (g2:Heap) (l2:List Cell) (F:Fx ρ g2 C m (c::c'::l2) h) (S:Sub g g2) (i:I g2 l2)
inductive Fi(I:Nat->Heap->(Str->Option Value)->List Cell->Prop)(g1:Heap)(ρ:List (Addr×Obj))(L it:Addr)(dW:Nat->Obj->Prop)(n:Nat)(gg:Array GenState)(d:Drawn)(o:OsState)(q:Nat)(s:Shared):Prop
 |mk (i:Nat) (g:Heap) (m:Str->Option Value) (l:List Cell) (h':Heap) (k':Nat) (es:s=⟨h',gg,d,k',o⟩) (eq:q=n-i) (hi:i<=n) (S:Sub g1 g) (hI:I i g m l) (F:Fx ρ g L m ((it,dW i)::l) h'):Fi I g1 ρ L it dW n gg d o q s
inductive Ci(I:Nat->List Value->Heap->List Cell->Prop)(gC:Heap)(ρ:List (Addr×Obj))(C:Addr)(x:Str)(it D:Addr)(dW:Nat->Obj->Prop)(n:Nat)(gg:Array GenState)(d:Drawn)(o:OsState)(q:Nat)(s:Shared):Prop
 |mk (i:Nat) (ys:List Value) (aX:Heap) (u:Option Value) (l₁:List Cell) (h':Heap) (k':Nat) (es:s=⟨h',gg,d,k',o⟩) (eq:q=n-i) (hi:i<=n) (S:Sub gC aX) (hI:I i ys aX l₁) (F:Fx ρ aX C (mv [x] [u]) ((it,dW i)::(D,Lo ys)::l₁) h'):Ci I gC ρ C x it D dW n gg d o q s
inductive Yb(ρ:List (Addr×Obj))(L:Addr)(n:Nat)(P:Nat->Value->Prop)(I:Nat->List Value->Heap->List Cell->Prop)(Q:Value->Heap->Prop)(v:Value)(h:Heap):Prop
 |mk (g:Heap) (m:Str->Option Value) (l:List Cell) (F:Fx ρ g L m l h) (sr:Src g v n P) (i0:∀g',Sub g g'->I 0 [] g' l) (fin:∀D ys aV bY aQ bj,I n ys aV aQ->cy aV bY->Sub g bY->Fx ρ bY L m ((D,Lo ys)::aQ) bj->Q (.ref D) bj):Yb ρ L n P I Q v h
structure Lp(A:Around)(env:Env)(target:Expr)(body:List Stmt)(Q:Flow->Heap->Prop)(E₁:Value->Heap->Prop)(ρ:List (Addr×Obj))(L:Addr)(n:Nat)(P:Nat->Value->Prop)(I:Nat->Heap->(Str->Option Value)->List Cell->Prop):Prop where
 turn:∀i v g m l h it p,i<n->P i v->I i g m l->Fx ρ g L m ((it,p)::l) h->Wp A (assign target env v) (λζ h1=>Wp A (execs body env) (λf h2=>match f with
   | .next| .cont=>Nf ρ L (it,p) g (I (i+1)) h2
   | .brk=>Q .next h2
   | .ret v=>Q (.ret v) h2) E₁ h1) E₁ h
 done:∀g m l h g',I n g m l->Sub g g'->Fx ρ g' L m l h->Q .next h
theorem lG{target iter:Expr}{body:List Stmt}{pos:Pos}{Q:Flow->Heap->Prop}(ρ:List (Addr×Obj))(L:Addr)(hh:A.handled=none)
  (x:Wp A (eval iter env) (λv h1=>∃n P I g1 m l,Fx ρ g1 L m l h1/\Src g1 v n P/\I 0 g1 m l/\Lp A env target body Q E₁ ρ L n P I) E h)
  (hE:∀e h,E₁ e h->fB A env E e h)
  (hs:∀x,foldedSetIterable iter env x=pure x:=by intro _;rfl):Wp A (exec (.For target iter body [] pos) env) Q E h:=by
 refine .of ?_;intro gg d k o Q' E' hQ EG
 refine wpAny_For (x.go gg d k o _ _ (λv h1 k1 hv=>?_) EG) hs
 obtain⟨n,P,I,g1,m,l,F,⟨dW,ob,i0,sY,hit,qh⟩,hI,⟨turn,done⟩⟩:=hv
 refine qh F.keep ?_
 have hl:=hit h1.objs.size
 refine codeAny_forLoop_any (Fi I g1 ρ L h1.objs.size dW n gg d o) ?_ n ⟨0,g1,m,l,_,k1,rfl,by simp,Nat.zero_le _,Sub.refl _,hI,F.push ob i0 (hl.nt _) sY⟩
 rintro q s ⟨i,g,m,l,h',k',rfl,rfl,hi,S0,hI,F⟩
 have hU:=F.get (a:=h1.objs.size) (p:=dW i) List.mem_cons_self
 by_cases kj:i<n
 ·refine hl.item kj (S0.trans F.keep) hU λv h2 k2 hP j5 fZ=>?_
  obtain⟨o2,e2,p2⟩:=id j5
  have F2:Fx ρ g L m ((h1.objs.size,dW (i+1))::l) h2:=Fx.turn (l₀:=[]) F fZ e2 p2 (hl.nt _)
  try dsimp only
  refine hl.go j5 ?_
  refine(turn i v g m l h2 _ _ kj hP hI F2).go gg d k2 o _ _ (λζ h3 k3 q3=>?_) λe h3 k3 q=>?_
  ·refine Wp.go q3 gg d k3 o _ _ (λf h4 k4 q4=>?_) λe h3 k3 q=>?_
   ·cases f with
    |next=>obtain⟨g2,m2,l2,F3,S3,LZ⟩:=q4;exact⟨n-(i+1),Nat.sub_succ_lt_self _ _ kj,i+1,g2,m2,l2,h4,k4,rfl,rfl,kj,S0.trans S3,LZ,F3⟩
    |cont=>obtain⟨g2,m2,l2,F3,S3,LZ⟩:=q4;exact⟨n-(i+1),Nat.sub_succ_lt_self _ _ kj,i+1,g2,m2,l2,h4,k4,rfl,rfl,kj,S0.trans S3,LZ,F3⟩
    |brk=>exact hQ _ _ _ q4
    |ret v=>exact hQ _ _ _ q4
   ·exact(hE _ _ q).at gg d k3 o EG λs z=>z
  ·exact(hE _ _ q).at gg d k3 o EG λs z=>z
 ·have e:i=n:=K7 (by assumption) (by assumption)
  subst e
  refine hl.last hh (S0.trans F.keep) hU λh2 fZ=>?_
  refine wpAny_execs_nil ?_
  have kp:∀b ob,h'.get? b=some ob->b≠h1.objs.size->h2.get? b=some ob:=λb ob e q=>fZ b ob q e
  have cz:L≠h1.objs.size:=λq=>F.cz.1 (q▸List.mem_cons_self)
  obtain⟨g',S,F'⟩:=Fx.u_ (l₀:=[]) (l:=[(h1.objs.size,dW i)]) (l₁:=l) (l':=[]) (h':=h2) F (λb ob e h1 ζ ζ=>kp b ob e λq=>h1 (q▸List.mem_cons_self)) (Own.nil _) (λp hp=>nomatch hp) (f6 F.ns λob e=>kp _ _ e cz) λp hp=>by
   obtain⟨n,sl,e⟩:=F.fr p hp
   exact⟨n,sl,kp _ _ e λq=>F.cS _ (q▸List.mem_cons_self) (ax hp)⟩
  exact hQ _ _ _ (done g m l h2 g' hI S F')
theorem EM{target iter:Expr}{body:List Stmt}{pos:Pos}{n:Nat}{P:Nat->Value->Prop}{Q:Flow->Heap->Prop}(ρ:List (Addr×Obj))(L:Addr)(hh:A.handled=none)
  (I:Nat->Heap->(Str->Option Value)->List Cell->Prop)
  (x:Wp A (eval iter env) (λv h1=>∃g1 m l,Fx ρ g1 L m l h1/\Src g1 v n P/\I 0 g1 m l) E h)
  (turn:∀i v g m l h it p,i<n->P i v->I i g m l->Fx ρ g L m ((it,p)::l) h->Wp A (assign target env v) (λζ h1=>Wp A (execs body env) (λf h2=>match f with
   | .next| .cont=>Nf ρ L (it,p) g (I (i+1)) h2
   | .brk=>Q .next h2
   | .ret v=>Q (.ret v) h2) E₁ h1) E₁ h)
  (done:∀g m l h g',I n g m l->Sub g g'->Fx ρ g' L m l h->Q .next h)
  (hE:∀e h,E₁ e h->fB A env E e h)
  (hs:∀x,foldedSetIterable iter env x=pure x:=by intro _;rfl):Wp A (exec (.For target iter body [] pos) env) Q E h:=
 lG ρ L hh (x.mono (λv h1 q=>by
  refine A2 q λg1 m l F sr i0=>?_
  clear q
  exact⟨n,P,I,g1,m,l,F,sr,i0,⟨turn,done⟩⟩) λζ ζ q=>q) hE hs
theorem gQ{target iter:Expr}{body:List Stmt}{pos:Pos}{n:Nat}{P:Nat->Value->Prop}{Q:Flow->Heap->Prop}(ρ:List (Addr×Obj))(L:Addr)(hh:A.handled=none)
  (I:Nat->Heap->(Str->Option Value)->List Cell->Prop)
  (x:Wp A (eval iter env) (λv h1=>∃g1 m l,Fx ρ g1 L m l h1/\Src g1 v n P/\I 0 g1 m l) E h)
  (turn:∀i v g m l h it p,i<n->P i v->I i g m l->Fx ρ g L m ((it,p)::l) h->Wp A (assign target env v) (λζ h1=>Wp A (execs body env) (λf h2=>match f with
   | .next| .cont=>Nf ρ L (it,p) g (I (i+1)) h2
   | .brk=>Q .next h2
   | .ret v=>Q (.ret v) h2) (λζ ζ=>False) h1) (λζ ζ=>False) h)
  (done:∀g m l h g',I n g m l->Sub g g'->Fx ρ g' L m l h->Q .next h)
  (hs:∀x,foldedSetIterable iter env x=pure x:=by intro _;rfl):Wp A (exec (.For target iter body [] pos) env) Q E h:=
 EM ρ L hh I x turn done (λe h (q:False)=>q.elim) hs
theorem lH{elt iter:Expr}{x:Str}{px:Pos}{ifs:List Expr}{scope:Scope}{cl:List (Str×Addr)}{pos:Pos}{it:Addr}{dW:Nat->Obj->Prop}{n:Nat}{P:Nat->Value->Prop}{gg:Array GenState}{d:Drawn}{k:Nat}{o:OsState}{E':Value->Shared->Prop}{RR:Value->Addr->Result->Shared->Prop}
  (hh:A.handled=none)(hU:∀y∈scope.names,y.2≠.cell)(Dl:scope.kind= .function)(hx:scope.names.lookup x=some .local)
  (F:Fx ρ g L m ((it,dW 0)::l) h)(RZ:Iter g it dW n P)
  (I:Nat->List Value->Heap->List Cell->Prop)(h0:∀g',Sub g g'->I 0 [] g' l)(hy:∀i ys g l,I i ys g l->ys.length<=10000)
  (turn:∀i v ys aX l h it D C,i<n->P i v->Sub g aX->I i ys aX l->Fx ρ aX C (mv [x] [some v]) ((it,dW (i+1))::(D,Lo ys)::l) h->Wp A (tests ifs (compEnvC scope cl C env)) (λok h1=>
   if ok then Wp A (eval elt (compEnvC scope cl C env)) (λy h2=>Ny ρ C (mv [x] [some v]) (it,dW (i+1)) (D,Lo ys) aX (I (i+1) (ys++[y])) h2) E₁ h1
   else Ny ρ C (mv [x] [some v]) (it,dW (i+1)) (D,Lo ys) aX (I (i+1) ys) h1) E₁ h)
  (fin:∀D C ys aV bY m₂ aQ bj k₂,I n ys aV aQ->Sub g aV->Sub aV bY->(∃oL,bY.get? L=some oL/\h.get? L=some oL)->Fx ρ bY C m₂ ((D,Lo ys)::aQ) bj->RR (.ref D) C (.ok .next) ⟨bj,gg,d,k₂,o⟩)
  (hE:∀D C e bj k₂,E₁ e bj->notedBy (model PW w) A (compEnvC scope cl C env) (λe s'=>RR (.ref D) C (.error e) s') e ⟨bj,gg,d,k₂,o⟩):
  wpAny (model PW w) A (newList []) (λacc L5=>wpAny (model PW w) A (newFunctionEnv scope env.globals cl [] env.qual none .none (some env)) (λcB L6=>
   codeAny (model PW w) A (.compStart (.ListComp elt [⟨.Name x px,iter,ifs,0⟩] scope pos) 0 (.ref it) acc {cB with scope:=relabel scope env}) (RR acc cB.locals) L6) E' L5) E' ⟨h,gg,d,k,o⟩:=by
 refine wpAny_newObj_type ?_
 have F1:Fx ρ g L m ((h.objs.size,Lo [])::(it,dW 0)::l) (h.push (nF [] 0)):=F.push (nF [] 0) ⟨rfl,rfl,0,rfl⟩ Lo.nt
 show wpAny _ _ (newFunctionEnv scope env.globals cl [] env.qual none .none (some env)) _ _ ⟨h.push (nF [] 0),gg,d,k,o⟩
 generalize hH:h.push (nF [] 0)=H at F1
 generalize hD:h.objs.size=D at F1
 refine wpAny_newFunctionEnv (s:=⟨H,gg,d,k,o⟩) hU (λy hy=>nomatch hy) (λh₁ fY AN=>?_) Dl
 dsimp only at fY AN ⊢
 refine jH (id F.ns) λoL O2 O3 i9 rL=>?_
 have H_:H.get? L=some oL:=by refine hH▸?_;exact Heap.get?_push_of_some _ i9
 have k1:Sub H h₁:=λb ob e=>AN.extBut b ob (Nat.ne_of_lt (Heap.lt_size e)) (Heap.get?_push_of_some _ e)
 have Gv:H.objs.size≠L:=Nat.ne_of_gt (Heap.lt_size H_)
 have F2:Fx ρ g L m ((it,dW 0)::(D,Lo [])::l) H:=F1.perm (List.Perm.swap ..)
 obtain⟨gC,SC,FC⟩:Nx ρ g H.objs.size (mv [x] [none]) ((it,dW 0)::(D,Lo [])::l) h₁:=by
  refine Fx.grow g ?_ (F2.own.ups k1) (F2.fr.ups k1) (F2.keep.trans k1) F2.keep.fresh F2.bo F2.bH ⟨F2.own.fresh,F2.fr.fresh⟩ F2.cS
  have e:(λy=>List.lookup y (([]:List (Str×Value)).reverse))=mv [x] [none]:=by
   funext y
   unfold mv
   split
   ·rfl
   ·unfold mv;rfl
  refine e▸?_;exact fY
 have R0:gC.get? L=some oL:=FC.max L oL (k1 _ _ H_) Gv.symm F2.cz.1 F2.cz.2
 have e0:({newEnv scope H.objs.size env.globals cl env.qual none .none (some env) builtinsNs with scope:=relabel scope env}:Env)=compEnvC scope cl H.objs.size env:=rfl
 refine e0.symm▸?_
 have J2:=RZ.up SC
 have loop:∀k₀,codeAny (model PW w) A (.compLoop (.ListComp elt [⟨.Name x px,iter,ifs,0⟩] scope pos) 0 (.ref it) (.ref D) (compEnvC scope cl H.objs.size env)) (RR (.ref D) H.objs.size) ⟨h₁,gg,d,k₀,o⟩:=λk₀=>by
  refine codeAny_compLoop_tests (Ci I gC ρ H.objs.size x it D dW n gg d o) ?_ n ⟨0,[],gC,none,l,h₁,k₀,rfl,by simp,Nat.zero_le _,Sub.refl _,h0 gC SC,FC⟩ (λζ=>rfl)
  rintro q s ⟨i,ys,aX,u,l₁,h',k',rfl,rfl,hi,S1,hI,F3⟩
  have hit:=F3.get (a:=it) (p:=dW i) List.mem_cons_self
  by_cases kj:i<n
  ·refine J2.item kj (S1.trans F3.keep) hit λv h2 k2 hP j5 fZ=>?_
   obtain⟨o2,e2,p2⟩:=j5
   have F4:Fx ρ aX H.objs.size (mv [x] [u]) ((it,dW (i+1))::(D,Lo ys)::l₁) h2:=Fx.turn (l₀:=[]) F3 fZ e2 p2 (J2.nt _)
   refine wpAny_assign_Name (wpAny_storeName_local (s:=⟨h2,gg,d,k2,o⟩) (lookup_relabel_local hx) F4.ns (λh3 Ia R1=>?_) (by show((relabel scope env).kind==.class||((relabel scope env).kind==.module&&_))=false;refine(show(relabel scope env).kind=scope.kind from rfl).symm▸Dl.symm▸?_;rfl))
   have em:(λy=>if y=x then some v else mv [x] [u] y)=mv [x] [some v]:=by
    funext y
    unfold mv
    split <;> rfl
   have F5:Fx ρ aX H.objs.size (mv [x] [some v]) ((it,dW (i+1))::(D,Lo ys)::l₁) h3:=(F4.set Ia R1).map em
   refine(turn i v ys aX l₁ h3 it D H.objs.size kj hP (SC.trans S1) hI F5).go gg d _ o _ _ (λok h4 k4 q4=>?_) λe h4 k4 q=>hE D _ e h4 k4 q
   cases ok with
   |false=>
    simp only[Bool.false_eq_true,if_false] at q4 ⊢
    obtain⟨aV,aQ,F6,S6,L7⟩:=q4
    exact⟨n-(i+1),Nat.sub_succ_lt_self _ _ kj,i+1,ys,aV,_,aQ,h4,k4,rfl,rfl,kj,S1.trans S6,L7,F6⟩
   |true=>
    simp only[if_true] at q4 ⊢
    refine Wp.go q4 gg d k4 o _ _ (λy h5 k5 q5=>?_) λe h5 k5 q=>hE D _ e h5 k5 q
    obtain⟨aV,aQ,F6,S6,L7⟩:=q5
    have hY:ys.length<=10000:=hy _ _ _ _ hI
    refine(kI (A:=A) (E:=λζ ζ=>False) (l₀:=[(it,dW (i+1))]) F6 hY (Q:=λζ h6=>Fx ρ aV H.objs.size (mv [x] [some v]) ((it,dW (i+1))::(D,Lo (ys++[y]))::aQ) h6) λh6 F7=>F7).go gg d k5 o _ _ (λζ h6 k6 F7=>?_) λe h6 k6 q=>q.elim
    exact⟨n-(i+1),Nat.sub_succ_lt_self _ _ kj,i+1,ys++[y],aV,_,aQ,h6,k6,rfl,rfl,kj,S1.trans S6,L7,F7⟩
  ·have e:i=n:=K7 (by assumption) (by assumption)
   subst e
   refine J2.last hh (S1.trans F3.keep) hit λh2 fZ=>?_
   have kp:∀b ob,h'.get? b=some ob->b≠it->h2.get? b=some ob:=λb ob e q=>fZ b ob q e
   have LA:H.objs.size≠it:=λq=>F3.cz.1 (q▸List.mem_cons_self)
   obtain⟨g',S,F'⟩:=Fx.u_ (l₀:=[]) (l:=[(it,dW i)]) (l₁:=(D,Lo ys)::l₁) (l':=[]) (h':=h2) F3 (λb ob e h1 ζ ζ=>kp b ob e λq=>h1 (q▸List.mem_cons_self)) (Own.nil _) (λp hp=>nomatch hp) (f6 F3.ns λob e=>kp _ _ e LA) λp hp=>by
    obtain⟨n,sl,e⟩:=F3.fr p hp
    exact⟨n,sl,kp _ _ e λq=>F3.cS _ (q▸List.mem_cons_self) (ax hp)⟩
   exact fin D _ ys aX g' _ l₁ h2 k' hI (SC.trans S1) S ⟨oL,S _ _ (S1 _ _ R0),i9⟩ F'
 exact codeAny_compStart_list (loop _) (J2.again FC.keep (FC.get (a:=it) (p:=dW 0) List.mem_cons_self) (loop _))
theorem BG{elt iter:Expr}{x:Str}{px:Pos}{ifs:List Expr}{scope:Scope}{cl:List (Str×Addr)}{pos:Pos}{n:Nat}{P:Nat->Value->Prop}{Q:Value->Heap->Prop}(ρ:List (Addr×Obj))(L:Addr)
  (hh:A.handled=none)(dN:closureFor scope env=pure cl)(km:(scope.names.all (λy=>y.2 !=.cell&&(y.2 !=.local||scope.names.lookup y.1==some .local))&&scope.kind==.function&&scope.names.lookup x==some .local)=true)
  (I:Nat->List Value->Heap->List Cell->Prop)(hy:∀i ys g l,I i ys g l->ys.length<=10000)
  (start:Wp A (eval iter env) (Yb ρ L n P I Q) E h)
  (turn:∀i v ys aX l h it p D C,i<n->P i v->I i ys aX l->Fx ρ aX C (mv [x] [some v]) ((it,p)::(D,Lo ys)::l) h->Wp A (tests ifs (compEnvC scope cl C env)) (λok h1=>
   if ok then Wp A (eval elt (compEnvC scope cl C env)) (λy h2=>Ny ρ C (mv [x] [some v]) (it,p) (D,Lo ys) aX (I (i+1) (ys++[y])) h2) (λζ ζ=>False) h1
   else Ny ρ C (mv [x] [some v]) (it,p) (D,Lo ys) aX (I (i+1) ys) h1) (λζ ζ=>False) h)
  (hs:∀x,foldedSetIterable iter env x=pure x:=by intro _;rfl):Wp A (eval (.ListComp elt [⟨.Name x px,iter,ifs,0⟩] scope pos) env) Q E h:=by
 refine .of ?_;intro gg d k o Q' E' hQ hE
 simp only[Bool.and_eq_true,List.all_eq_true,Bool.or_eq_true,bne_iff_ne,beq_iff_eq] at km
 obtain⟨⟨h1,h2⟩,h3⟩:=km
 refine(eval_ListComp ..).symm▸?_
 refine wpAny_comprehension_free (use:=none) rfl hs dN h2 (λy hy hl=>(h1 y hy).2.resolve_left λq=>q hl) (start.go gg d k o _ _ (λv h4 k4 q=>?_) hE)
 obtain⟨g,m,l,F,⟨dW,ob,i0,sY,hit,qh⟩,hI,fin⟩:=q
 refine qh F.keep ?_
 have F1:Fx ρ g L m ((h4.objs.size,dW 0)::l) _:=F.push ob i0 ((hit h4.objs.size).nt _) sY
 refine lH (E₁:=λζ ζ=>False) (RR:=λacc C=>compPost (model PW w) A E' none Q' acc C) hh (λy hy=>(h1 y hy).1) h2 h3 F1 (hit _) I hI hy (λi v ys aX l h it D C hx hP ζ hI F=>turn i v ys aX l h it _ D C hx hP hI F) (λD C ys aV bY m₂ aQ bj k₂ L9 S2 S3 hL F2=>?_) λD C e bj k₂ q=>q.elim
 refine aU hL λoL e1 e2=>?_
 clear hL
 have hn:bj.Ns L m:=by
  refine jH F1.ns λo' es ep ho r=>?_
  replace ho:=e2▸ho
  cases ho
  exact⟨oL,es,ep,F2.keep _ _ e1,r⟩
 refine fF (pU F2 (S2.trans S3) F1.dz e1 hn) λsX S5 T5 F5=>?_
 refine⟨m₂,F2.ns,λh' mP=>?_⟩
 obtain⟨EN,S6,F6⟩:=gM F5 mP
 exact hQ _ _ _ (fin D ys aV EN aQ h' L9 ((S3.aj.trans T5).trans S6.aj) (S5.trans S6) F6)
theorem mw{elt iter:Expr}{x y:Str}{px py:Pos}{ifs:List Expr}{scope:Scope}{cl:List (Str×Addr)}{pos lI:Pos}{n:Nat}{P:Nat->Value->Prop}{Q:Flow->Heap->Prop}{ns gs:List Str}(ρ:List (Addr×Obj))(L:Addr)
  (hh:A.handled=none)(O:Ev env L ns gs)(EO:y∈ns)(EP:swapsWith (.ListComp elt [⟨.Name x px,iter,ifs,0⟩] scope pos) (some (.Name y py)) lI.line env=pure true)(dN:closureFor scope env=pure cl)(km:(scope.names.all (λy=>y.2 !=.cell&&(y.2 !=.local||scope.names.lookup y.1==some .local))&&scope.kind==.function&&scope.names.lookup x==some .local)=true)
  (I:Nat->List Value->Heap->List Cell->Prop)(hy:∀i ys g l,I i ys g l->ys.length<=10000)
  (start:Wp A (eval iter env) (λv h1=>∃(g:Heap) (m:Str->Option Value) (l:List Cell),Fx ρ g L m l h1/\Src g v n P/\(∀g',Sub g g'->I 0 [] g' l)/\
   (∀D ys aV bY aQ bj,I n ys aV aQ->cy aV bY->Sub g bY->Fx ρ bY L (λz=>if z=y then some (.ref D) else m z) ((D,Lo ys)::aQ) bj->Q .next bj)) E h)
  (turn:∀i v ys aX l h it p D C,i<n->P i v->I i ys aX l->Fx ρ aX C (mv [x] [some v]) ((it,p)::(D,Lo ys)::l) h->Wp A (tests ifs (compEnvC scope cl C env)) (λok h1=>
   if ok then Wp A (eval elt (compEnvC scope cl C env)) (λy h2=>Ny ρ C (mv [x] [some v]) (it,p) (D,Lo ys) aX (I (i+1) (ys++[y])) h2) (λζ ζ=>False) h1
   else Ny ρ C (mv [x] [some v]) (it,p) (D,Lo ys) aX (I (i+1) ys) h1) (λζ ζ=>False) h)
  (hs:∀x,foldedSetIterable iter env x=pure x:=by intro _;rfl):Wp A (exec (.Assign [.Name y py] (.ListComp elt [⟨.Name x px,iter,ifs,0⟩] scope pos) lI) env) Q E h:=by
 refine .of ?_;intro gg d k o Q' E' hQ hE
 simp only[Bool.and_eq_true,List.all_eq_true,Bool.or_eq_true,bne_iff_ne,beq_iff_eq] at km
 obtain⟨⟨h1,h2⟩,h3⟩:=km
 refine(exec_Assign_Name_used _ _ _ _ EP).symm▸?_
 refine wpAny_bind (wpAny_standAt (wpAny_bind ?_))
 show wpAny _ A (do let _ <-comprehension (.ListComp elt [⟨.Name x px,iter,ifs,0⟩] scope pos) scope env _ (newList []) false (eval iter env) (some (assign (.Name y py) env))) _ _ _
 refine wpAny_bind (wpAny_mono (wpAny_comprehension_free (use:=some (assign (.Name y py) env)) (Q:=λζ s'=>Q' .next s') rfl hs dN h2 (λy hy hl=>(h1 y hy).2.resolve_left λq=>q hl)
  (start.go gg d k o _ _ (λv h4 k4 q=>?_) hE)) (λζ s' hq=>wpAny_pure (wpAny_pure hq)) λζ ζ e=>e)
 obtain⟨g,m,l,F,⟨dW,ob,i0,sY,hit,qh⟩,hI,fin⟩:=q
 refine qh F.keep ?_
 have F1:Fx ρ g L m ((h4.objs.size,dW 0)::l) _:=F.push ob i0 ((hit h4.objs.size).nt _) sY
 refine lH (E₁:=λζ ζ=>False) (RR:=λacc C=>compPost (model PW w) A E' (some (assign (.Name y py) env)) (λζ s'=>Q' .next s') acc C) hh (λy hy=>(h1 y hy).1) h2 h3 F1 (hit _) I hI hy (λi v ys aX l h it D C hx hP ζ hI F=>turn i v ys aX l h it _ D C hx hP hI F) (λD C ys aV bY m₂ aQ bj k₂ L9 S2 S3 hL F2=>?_) λD C e bj k₂ q=>q.elim
 refine aU hL λoL e1 e2=>?_
 clear hL
 have hn:bj.Ns L m:=by
  refine jH F1.ns λo' es ep ho r=>?_
  replace ho:=e2▸ho
  cases ho
  exact⟨oL,es,ep,F2.keep _ _ e1,r⟩
 refine fF (pU F2 (S2.trans S3) F1.dz e1 hn) λsX S5 T5 F5=>?_
 have R3:L≠C:=λq=>F5.cz.1 (q▸List.mem_cons_self)
 show wpAny _ A (assign (.Name y py) env (.ref D)) _ _ _
 refine wpAny_assign_Name (wpAny_storeName_local (s:=⟨bj,gg,d,k₂,o⟩) (O.lk _ EO).1 (O.loc▸F5.ns) (λqi Ib dv=>?_) (by refine O.kind.symm▸?_;rfl))
 have dv:Heap.SameBut L bj qi:=O.loc▸dv
 have F6:=F5.set (O.loc▸Ib) dv
 refine⟨m₂,F2.ns.sameBut dv (Ne.symm R3),λh' mP=>?_⟩
 obtain⟨EN,S6,F7⟩:=gM F6 mP
 exact hQ _ _ _ (fin D ys aV EN aQ h' L9 ((S3.aj.trans T5).trans S6.aj) (S5.trans S6) F7)
end
section
variable{A:Around}{h g:Heap}{R:Result->Heap->Prop}{k:dg}{B:List Row}{ops args sorts ae:List Value}{xs:List (Row×Addr×Value)}
theorem iw{i:Nat}{s:Int}{t ts tr:Tok}{where_:Str}{tw:Tok}(hA:Rm A 1)(G:Gd h)(I:In w.params h k.self 638 k.al)(At:dS k)(hl:Ls h k.sorts sorts)(e:sorts[i]? =some (.int s tr))(hi:i<=100000)(K:∀h',Step [] [] h [] h'->R (.ok (.ret .none)) h'):Cd A (.call (.ref 280) ⟨[.ref k.self,.int (i:Int) t,.int s ts,.str where_ tw],[]⟩) R h:=by
 refine aw (ps:=[U "self",U "t",U "s",U "where"]) (rest:=[]) (ns:=[U "self",U "t",U "s",U "where"]) (gs:=[U "SortFault"]) (vs:=[some (.ref k.self),some (.int (i:Int) t),some (.int s ts),some (.str where_ tw)]) (r:=0) (Gr.nil h) G hA (jJ G) (jK G) rfl rfl rfl rfl rfl (by decide +kernel) λL g1 h1 env A1 hE bS hr O S F=>?_
 obtain⟨a1,a2,a3,a4,a5,a6,a7⟩:=id At
 have e':sorts[(i:Int).toNat]? =some (.int s tr):=by simpa using e
 refine au ?_
 k_extra "T"
 refine bL (by simp) ?_
 k_extra "T"
 exact dI (K _ ((Gr.nil h).done (by k_extra "s") (by k_extra "q")))
theorem cn{i:Nat}{s:Int}{t tr:Tok}{where_:Str}{tw:Tok}(hA:Rm A 2)(G:Gd h)(I:In w.params h k.self 638 k.al)(At:dS k)(hl:Ls h k.sorts sorts)(e:sorts[i]? =some (.int s tr))(hs:s=1\/s=2)(hi:i<=100000)(K:∀h',Step [] [] h [] h'->R (.ok (.ret .none)) h'):Cd A (.call (.ref 453) ⟨[.ref k.self,.int (i:Int) t,.str where_ tw],[]⟩) R h:=by
 refine aw (ps:=[U "self",U "t",U "where"]) (rest:=[]) (ns:=[U "self",U "t",U "where"]) (gs:=[U "SortFault"]) (vs:=[some (.ref k.self),some (.int (i:Int) t),some (.str where_ tw)]) (r:=1) (Gr.nil h) G hA (d9 G) (d_ G) rfl rfl rfl rfl rfl (by decide +kernel) λL g1 h1 env A1 hE bS hr O S F=>?_
 obtain⟨a1,a2,a3,a4,a5,a6,a7⟩:=id At
 have e':sorts[(i:Int).toNat]? =some (.int s tr):=by simpa using e
 refine au ?_
 k_extra "T"
 refine Wp.call (eQ (hr.less (by decide)) (by k_extra "u") λh2 st=>?_)
 obtain⟨g3,S3,F3⟩:=Fx.aJ (by k_extra "s") st
 try dsimp only
 k_extra "T"
 refine bL (by rcases hs with rfl|rfl <;> simp) ?_
 k_extra "T"
 exact dI (K _ ((Gr.nil h).done (by k_extra "s") (by k_extra "q")))
def BH(sorts:List Value)(s:Int)(vs:List Value):Prop:=∀v∈vs,∃(i:Nat) (t tr:Tok),v= .int (i:Int) t/\sorts[i]? =some (.int s tr)/\i<=100000
theorem lJ{a:Addr}{vs:List Value}{s:Int}{ts:Tok}{where_:Str}{tw:Tok}(hA:Rm A 2)(G:Gd h)(I:In w.params h k.self 638 k.al)(At:dS k)(hl:Ls h k.sorts sorts)(hv:Ls h a vs)(hs:BH sorts s vs)(K:∀h',Step [] [] h [] h'->R (.ok (.ret .none)) h'):Cd A (.call (.ref 287) ⟨[.ref k.self,.ref a,.int s ts,.str where_ tw],[]⟩) R h:=by
 refine aw (ps:=[U "self",U "some",U "s",U "where"]) (rest:=[U "t"]) (ns:=[U "self",U "some",U "s",U "where",U "t"]) (gs:=[]) (vs:=[some (.ref k.self),some (.ref a),some (.int s ts),some (.str where_ tw),none]) (r:=1) (Gr.nil h) G hA (jY G) (jZ G) rfl rfl rfl rfl rfl (by decide +kernel) λL g1 h1 env A1 hE bS hr O S F=>?_
 obtain⟨a1,a2,a3,a4,a5,a6,a7⟩:=id At
 refine au ?_
 refine gQ (n:=vs.length) (P:=λi v=>vs[i]? =some v) [] L hr.hd (λi g m l=>Sub h g/\l=[]/\∃u,m=mv [U "self",U "some",U "s",U "where",U "t"] [some (.ref k.self),some (.ref a),some (.int s ts),some (.str where_ tw),u]) ?_ ?_ ?_ (by intro _;subst_vars;k_extra "R")
 ·k_extra "T"
  exact⟨g1,_,_,F,Src.list (by k_extra "u"),S,rfl,_,rfl⟩
 ·rintro i v g2 m l h2 it p _ hi ⟨S2,rfl,u,rfl⟩ F2
  refine A2 (hs v (List.mem_of_getElem? hi)) λj t tr ak e hj=>?_
  obtain rfl:=ak
  k_extra "T"
  refine Wp.call (iw (hr.less (by decide)) (by k_extra "u") (by k_extra "u") At (by k_extra "u") e hj λh3 st=>?_)
  obtain⟨g3,S3,F3⟩:=Fx.aJ (by k_extra "s") st
  try dsimp only
  k_extra "T"
  exact⟨_,_,_,by k_extra "s",by k_extra "q",by k_extra "q",rfl,_,rfl⟩
 ·rintro g2 m l h2 g3 ⟨S2,rfl,u,rfl⟩ S3 F3
  k_extra "T"
  exact dI (K _ ((Gr.nil h).done (by k_extra "s") (by k_extra "q")))
end
theorem bN{xs:List Value}{i:Nat}{v:Value}(e:xs[i]? =some v):xs[(i:Int).toNat]? =some v:=by simpa using e
theorem n8(x:Int ⊕ Int×Int):PyData.canLay0 (cf x)=true:=by rcases x with i|⟨n,d⟩ <;> rfl
theorem BI(x:Int ⊕ Int×Int):(cf x).depth<=4:=by rcases x with i|⟨n,d⟩ <;> simp[cf,PyData.depth,PyData.depthAll]
theorem Dm{A:Around}{E:Value->Heap->Prop}{h:Heap}{a b:Value}{x y:Int ⊕ Int×Int}{Q:Value->Heap->Prop}(hA:Rm A 0)(ha:aD h a x)(hb:aD h b y)(k:Q (.bool (decide (x=y))) h):Wp A (compareOp .Eq a b) Q E h:=
 HD (gL ha) (gL hb) (n8 x) (n8 y) (by have:=hA.un;have:=BI x;show A.units+_<9900;lia) (by refine(uu ..).symm▸?_;exact k)
def lK(r:Row):Prop:=r.1=U "num"->∃a b,r.2.2.2= .inr (a,b)/\b≠0/\(r.2.2.1=1->b=1)/\Bt 4000 a/\Bt 4000 b
def cH(B:List Row)(n d:Int)(i:Nat)(r:Row)(j:Nat)(B':List Row):Prop:=
 (r.1=U "num"/\∃a b,r.2.2.2= .inr (a,b)/\Mk B (U "num",[],r.2.2.1,.inr (mu n d a b,jo n d a b)) j B')\/
 (r.1≠U "num"/\n=1/\d=1/\j=i/\B'=B)\/
 (r.1≠U "num"/\¬(n=1/\d=1)/\∃dB dP,Mk B (U "num",[],r.2.2.1,.inr (n,d)) dB dP/\Mk dP (U "*",[(dB:Int),(i:Int)],r.2.2.1,.inl 0) j B')
theorem Mk.len{B B':List Row}{r:Row}{i:Nat}(m:Mk B r i B'):B'.length<=B.length+1/\i<=B.length:=by
 rcases m with⟨rfl,h,_⟩|⟨_,rfl,rfl⟩
 ·have:=(List.getElem?_eq_some_iff.mp h).1
  lia
 ·simp
section
variable{A:Around}{h g:Heap}{R:Result->Heap->Prop}{k:dg}{B:List Row}{ops args sorts ae:List Value}{xs:List (Row×Addr×Value)}
theorem dX{i:Nat}{n d:Int}{p:Addr}{t tn td:Tok}{r:Row}(x:Gr [] g h (Bl k ops args sorts ae xs))(G:Gd g)(I:In w.params g k.self 638 k.al)(At:dS k)(b:Bk k B ops args sorts ae xs h)(hA:Rm A 4)(hz:B.length<=4990)
  (e:B[i]? =some r)(hs:r.2.2.1=1\/r.2.2.1=2)(hn:lK r)(hp:Tp h p [.int n tn,.int d td])(hd:d≠0)(Ic:r.2.2.1=1->d=1)(bn:Bt 4000 n)(bd:Bt 4000 d)
  (K:∀(j:Nat) t B' av ai af ag aO h',Step [] (Bl k ops args sorts ae xs) h (Bl k av ai af ag aO) h'->Bk k B' av ai af ag aO h'->cH B n d i r j B'->R (.ok (.ret (.int j t))) h'):
  Cd A (.call (.ref 467) ⟨[.ref k.self,.ref p,.int (i:Int) t],[]⟩) R h:=by
 refine aw (ps:=[U "self",U "value",U "t"]) (rest:=[U "s"]) (ns:=[U "self",U "value",U "t",U "s"]) (gs:=[U "mul"]) (vs:=[some (.ref k.self),some (.ref p),some (.int (i:Int) t),none]) (r:=3) x G hA (eZ G) (e8 G) rfl rfl rfl rfl rfl (by decide +kernel) λL g1 h1 env A1 hE bS hr O S F=>?_
 have hb:Bk k B ops args sorts ae xs g:=b.up x.aj
 have hp:Tp g p [.int n tn,.int d td]:=hp.up x.aj
 obtain⟨a1,a2,a3,a4,a5,a6,a7⟩:=id At
 obtain⟨to,ts,va,vd,e1,e2,e3,e4,ra,rd⟩:=hb.rows.row e
 have hi:i<B.length:=(List.getElem?_eq_some_iff.mp e).1
 have f1:=bN e1
 have f3:=bN e3
 have f4:=bN e4
 refine au ?_
 k_extra "T"
 refine Wp.call (cn (hr.less (by decide)) (by k_extra "u") (by k_extra "u") At (by k_extra "u") e3 hs (by k_extra "z") λh2 st=>?_)
 obtain⟨g3,S3,F3⟩:=Fx.aJ (by k_extra "s") st
 try dsimp only
 k_extra "T"
 by_cases cZ:r.1=U "num"
 ·rw[if_pos (by simpa using cZ)]
  refine K6 (hn cZ) λa c q1 q2 q3 q4 q5=>?_
  replace rd:=q1▸rd
  refine jH rd λpd ta tb ak O4=>?_
  clear rd
  obtain rfl:=ak
  k_extra "T"
  refine Wp.call (De hr (by k_extra "u") (by k_extra "u") (by k_extra "u") hd q2 bn bd q4 q5 λrr u u' h3 L' wY=>?_)
  obtain⟨g4,S4,F4⟩:=Fx.aJ (by k_extra "s") L'
  have wY:=wY.up F4.aj
  try dsimp only
  k_extra "T"
  obtain⟨G2,x2,S2⟩:=Fx.bF (by k_extra "s")
  refine Wp.call (jM (n:=mu n d a c) (d:=jo n d a c) (B:=B) x2 (by k_extra "u") (by k_extra "u") At (by k_extra "u") (hr.less (by decide)) (by k_extra "z") ⟨_,_,_,rfl,by k_extra "u"⟩ hs (λz=>by rw[jo,if_pos ⟨Ic z,q3 z⟩]) λj t B' av ai af ag aO h' st b' mk=>?_)
  obtain⟨g5,S5,F5⟩:=Fx.aT (by k_extra "s") st
  k_extra "T"
  exact ah (K j t B' av ai af ag aO h' (x.done F5 (by k_extra "q")) b' (.inl ⟨cZ,a,c,q1,mk⟩))
 ·refine bL (by simpa using cZ) ?_
  k_extra "T"
  refine Dm (x:=.inr (n,d)) (y:=.inr (1,1)) (hr.less (by decide)) ⟨_,_,_,rfl,by k_extra "u"⟩ ⟨_,_,_,rfl,by k_extra "u"⟩ ?_
  by_cases hv:n=1/\d=1
  ·refine i_ hv λak iO=>?_
   clear hv
   obtain rfl:=ak
   obtain rfl:=iO
   k_extra "T"
   refine eN (by decide) ?_
   k_extra "T"
   exact ah (K i _ B ops args sorts ae xs _ (x.done (by k_extra "s") (by k_extra "q")) (by k_extra "u") (.inr (.inl ⟨cZ,rfl,rfl,rfl,rfl⟩)))
  ·have R4:(decide ((Sum.inr (n,d):Int ⊕ Int×Int)=Sum.inr (1,1)))=false:=by simpa using hv
   refine R4.symm▸?_
   k_extra "T"
   obtain⟨G2,x2,S2⟩:=Fx.bF (by k_extra "s")
   refine Wp.call (jM (n:=n) (d:=d) (B:=B) x2 (by k_extra "u") (by k_extra "u") At (by k_extra "u") (hr.less (by decide)) (by k_extra "z") ⟨_,_,_,rfl,by k_extra "u"⟩ hs Ic λdB L_ dP ER BJ zk zo Ie h₁ zp zq Dn=>?_)
   obtain⟨g5,S5,F5⟩:=Fx.aT (by k_extra "s") zp
   have zq:=zq.up F5.aj
   try dsimp only
   k_extra "T"
   obtain⟨G3,x3,S3⟩:=Fx.bF (by k_extra "s")
   have:=Dn.len
   refine Wp.call (fo (k:=k) (B:=dP) (d:=.inl 0) (is:=[(dB:Int),(i:Int)]) x3 (by k_extra "u") (by k_extra "u") At (by k_extra "u") (hr.less (by decide)) (by k_extra "z") (by decide +kernel) ⟨_,_,rfl,by k_extra "u",.cons _ _ (.cons _ _ .nil)⟩ ⟨_,rfl⟩ λj t B' av ai af ag aO h' st b' mk=>?_)
   obtain⟨g6,S6,F6⟩:=Fx.aT (by k_extra "s") st
   k_extra "T"
   exact ah (K j t B' av ai af ag aO h' (x.done F6 (by k_extra "q")) b' (.inr (.inr ⟨cZ,hv,dB,dP,Dn,mk⟩)))
end
section
variable{A:Around}{h g:Heap}{R:Result->Heap->Prop}{k:dg}{B:List Row}{ops args sorts ae:List Value}{xs:List (Row×Addr×Value)}
theorem Bk.aR{i:Nat}{r:Row}(b:Bk k B ops args sorts ae xs h)(e:B[i]? =some r):∃t,sorts[i]? =some (.int r.2.2.1 t):=by
 obtain⟨to,ts,va,vd,e1,e2,e3,e4,ra,rd⟩:=b.rows.row e
 exact⟨ts,e3⟩
theorem ES{i j:Nat}{a:Addr}{ti tj:Tok}{r r':Row}(x:Gr [] g h (Bl k ops args sorts ae xs))(G:Gd g)(I:In w.params g k.self 638 k.al)(At:dS k)(b:Bk k B ops args sorts ae xs h)(hA:Rm A 4)(hz:B.length<=4990)
  (hl:Ls g a [.int (i:Int) ti,.int (j:Int) tj])(e:B[i]? =some r)(e':B[j]? =some r')(hs:r.2.2.1=1\/r.2.2.1=2)(ku:r'.2.2.1=r.2.2.1)
  (K:∀(o:Nat) t B' av ai af ag aO h',Step [] (Bl k ops args sorts ae xs) h (Bl k av ai af ag aO) h'->Bk k B' av ai af ag aO h'->Mk B (U "+",[(i:Int),(j:Int)],r.2.2.1,.inl 0) o B'->R (.ok (.ret (.int o t))) h'):
  Cd A (.call (.ref 460) ⟨[.ref k.self,.ref a],[]⟩) R h:=by
 refine aw (ps:=[U "self",U "some"]) (rest:=[]) (ns:=[U "self",U "some"]) (gs:=[U "len",U "tuple",U "SortFault"]) (vs:=[some (.ref k.self),some (.ref a)]) (r:=3) x G hA (iL G) (iM G) rfl rfl rfl rfl rfl (by decide +kernel) λL g1 h1 env A1 hE bS hr O S F=>?_
 have hb:Bk k B ops args sorts ae xs g:=b.up x.aj
 obtain⟨a1,a2,a3,a4,a5,a6,a7⟩:=id At
 refine aP (hb.aR e) λts e3=>?_
 refine aP (hb.aR e') λIg lL=>?_
 replace lL:=ku▸lL
 have hi:i<B.length:=(List.getElem?_eq_some_iff.mp e).1
 have hj:j<B.length:=(List.getElem?_eq_some_iff.mp e').1
 have f3:=bN e3
 have q0:[Value.int (i:Int) ti,.int (j:Int) tj][(0:Int).toNat]? =some (.int (i:Int) ti):=rfl
 refine au ?_
 k_extra "T"
 refine bL (by simp) ?_
 k_extra "T"
 refine Wp.call (cn (hr.less (by decide)) (by k_extra "u") (by k_extra "u") At (by k_extra "u") e3 hs (by k_extra "z") λh2 st=>?_)
 obtain⟨g3,S3,F3⟩:=Fx.aJ (by k_extra "s") st
 try dsimp only
 k_extra "T"
 refine Wp.call (lJ (s:=r.2.2.1) (hr.less (by decide)) (by k_extra "u") (by k_extra "u") At (by k_extra "u") (by k_extra "u") (λv hv=>?_) λh2 st=>?_)
 ·simp only[List.mem_cons,List.not_mem_nil,or_false] at hv
  rcases hv with rfl|rfl
  ·exact⟨i,_,_,rfl,e3,by k_extra "z"⟩
  ·exact⟨j,_,_,rfl,lL,by k_extra "z"⟩
 obtain⟨g4,S4,F4⟩:=Fx.aJ (by k_extra "s") st
 try dsimp only
 k_extra "T"
 refine bL (by simp) ?_
 k_extra "T"
 obtain⟨G3,x3,S3⟩:=Fx.bF (by k_extra "s")
 refine Wp.call (fo (k:=k) (B:=B) (d:=.inl 0) (is:=[(i:Int),(j:Int)]) x3 (by k_extra "u") (by k_extra "u") At (by k_extra "u") (hr.less (by decide)) (by k_extra "z") (by decide +kernel) ⟨_,_,rfl,by k_extra "u",.cons _ _ (.cons _ _ .nil)⟩ ⟨_,rfl⟩ λj t B' av ai af ag aO h' st b' mk=>?_)
 obtain⟨g6,S6,F6⟩:=Fx.aT (by k_extra "s") st
 k_extra "T"
 exact ah (K j t B' av ai af ag aO h' (x.done F6 (by k_extra "q")) b' mk)
theorem Ma{i j:Nat}{ti tj:Tok}{r r':Row}(x:Gr [] g h (Bl k ops args sorts ae xs))(G:Gd g)(I:In w.params g k.self 638 k.al)(At:dS k)(b:Bk k B ops args sorts ae xs h)(hA:Rm A 4)(hz:B.length<=4990)
  (e:B[i]? =some r)(e':B[j]? =some r')(hs:r.2.2.1=1\/r.2.2.1=2)(ku:r'.2.2.1=r.2.2.1)
  (K:∀(o:Nat) t B' av ai af ag aO h',Step [] (Bl k ops args sorts ae xs) h (Bl k av ai af ag aO) h'->Bk k B' av ai af ag aO h'->Mk B (U "<=",[(i:Int),(j:Int)],0,.inl 0) o B'->R (.ok (.ret (.int o t))) h'):
  Cd A (.call (.ref 502) ⟨[.ref k.self,.int (i:Int) ti,.int (j:Int) tj],[]⟩) R h:=by
 refine aw (ps:=[U "self",U "a",U "b"]) (rest:=[]) (ns:=[U "self",U "a",U "b"]) (gs:=[U "BOOL"]) (vs:=[some (.ref k.self),some (.int (i:Int) ti),some (.int (j:Int) tj)]) (r:=3) x G hA (fy G) (fz G) rfl rfl rfl rfl rfl (by decide +kernel) λL g1 h1 env A1 hE bS hr O S F=>?_
 have hb:Bk k B ops args sorts ae xs g:=b.up x.aj
 obtain⟨a1,a2,a3,a4,a5,a6,a7⟩:=id At
 refine aP (hb.aR e) λts e3=>?_
 refine aP (hb.aR e') λIg lL=>?_
 replace lL:=ku▸lL
 have hi:i<B.length:=(List.getElem?_eq_some_iff.mp e).1
 have hj:j<B.length:=(List.getElem?_eq_some_iff.mp e').1
 have f3:=bN e3
 refine au ?_
 k_extra "T"
 refine Wp.call (cn (hr.less (by decide)) (by k_extra "u") (by k_extra "u") At (by k_extra "u") e3 hs (by k_extra "z") λh2 st=>?_)
 obtain⟨g3,S3,F3⟩:=Fx.aJ (by k_extra "s") st
 try dsimp only
 k_extra "T"
 refine Wp.call (iw (hr.less (by decide)) (by k_extra "u") (by k_extra "u") At (by k_extra "u") lL (by k_extra "z") λh2 st=>?_)
 obtain⟨g4,S4,F4⟩:=Fx.aJ (by k_extra "s") st
 try dsimp only
 k_extra "T"
 obtain⟨G3,x3,S3⟩:=Fx.bF (by k_extra "s")
 refine Wp.call (fo (k:=k) (B:=B) (d:=.inl 0) (is:=[(i:Int),(j:Int)]) x3 (by k_extra "u") (by k_extra "u") At (by k_extra "u") (hr.less (by decide)) (by k_extra "z") (by decide +kernel) ⟨_,_,rfl,by k_extra "u",.cons _ _ (.cons _ _ .nil)⟩ ⟨_,rfl⟩ λj t B' av ai af ag aO h' st b' mk=>?_)
 obtain⟨g6,S6,F6⟩:=Fx.aT (by k_extra "s") st
 k_extra "T"
 exact ah (K j t B' av ai af ag aO h' (x.done F6 (by k_extra "q")) b' mk)
theorem Dp{c i j:Nat}{tc ti tj:Tok}{rc r r':Row}(x:Gr [] g h (Bl k ops args sorts ae xs))(G:Gd g)(I:In w.params g k.self 638 k.al)(At:dS k)(b:Bk k B ops args sorts ae xs h)(hA:Rm A 4)(hz:B.length<=4990)
  (ec:B[c]? =some rc)(e:B[i]? =some r)(e':B[j]? =some r')(hc:rc.2.2.1=0)(ku:r'.2.2.1=r.2.2.1)
  (K:∀(o:Nat) t B' av ai af ag aO h',Step [] (Bl k ops args sorts ae xs) h (Bl k av ai af ag aO) h'->Bk k B' av ai af ag aO h'->Mk B (U "ite",[(c:Int),(i:Int),(j:Int)],r.2.2.1,.inl 0) o B'->R (.ok (.ret (.int o t))) h'):
  Cd A (.call (.ref 399) ⟨[.ref k.self,.int (c:Int) tc,.int (i:Int) ti,.int (j:Int) tj],[]⟩) R h:=by
 refine aw (ps:=[U "self",U "c",U "a",U "b"]) (rest:=[]) (ns:=[U "self",U "c",U "a",U "b"]) (gs:=[U "BOOL"]) (vs:=[some (.ref k.self),some (.int (c:Int) tc),some (.int (i:Int) ti),some (.int (j:Int) tj)]) (r:=3) x G hA (kL G) (kM G) rfl rfl rfl rfl rfl (by decide +kernel) λL g1 h1 env A1 hE bS hr O S F=>?_
 have hb:Bk k B ops args sorts ae xs g:=b.up x.aj
 obtain⟨a1,a2,a3,a4,a5,a6,a7⟩:=id At
 refine aP (hb.aR ec) λVv Me=>?_
 refine aP (hb.aR e) λts e3=>?_
 refine aP (hb.aR e') λIg lL=>?_
 replace lL:=ku▸lL
 replace Me:=hc▸Me
 have Vw:c<B.length:=(List.getElem?_eq_some_iff.mp ec).1
 have hi:i<B.length:=(List.getElem?_eq_some_iff.mp e).1
 have hj:j<B.length:=(List.getElem?_eq_some_iff.mp e').1
 have f3:=bN e3
 refine au ?_
 k_extra "T"
 refine Wp.call (iw (hr.less (by decide)) (by k_extra "u") (by k_extra "u") At (by k_extra "u") Me (by k_extra "z") λh2 st=>?_)
 obtain⟨g3,S3,F3⟩:=Fx.aJ (by k_extra "s") st
 try dsimp only
 k_extra "T"
 refine Wp.call (iw (hr.less (by decide)) (by k_extra "u") (by k_extra "u") At (by k_extra "u") lL (by k_extra "z") λh2 st=>?_)
 obtain⟨g4,S4,F4⟩:=Fx.aJ (by k_extra "s") st
 try dsimp only
 k_extra "T"
 obtain⟨G3,x3,S3⟩:=Fx.bF (by k_extra "s")
 refine Wp.call (fo (k:=k) (B:=B) (d:=.inl 0) (is:=[(c:Int),(i:Int),(j:Int)]) x3 (by k_extra "u") (by k_extra "u") At (by k_extra "u") (hr.less (by decide)) (by k_extra "z") (by decide +kernel) ⟨_,_,rfl,by k_extra "u",.cons _ _ (.cons _ _ (.cons _ _ .nil))⟩ ⟨_,rfl⟩ λj t B' av ai af ag aO h' st b' mk=>?_)
 obtain⟨g6,S6,F6⟩:=Fx.aT (by k_extra "s") st
 k_extra "T"
 exact ah (K j t B' av ai af ag aO h' (x.done F6 (by k_extra "q")) b' mk)
end
section
variable{A:Around}{h g:Heap}{R:Result->Heap->Prop}{k:dg}{B:List Row}{ops args sorts ae:List Value}{xs:List (Row×Addr×Value)}
theorem th{i:Nat}{t:Tok}{r:Row}(x:Gr [] g h (Bl k ops args sorts ae xs))(G:Gd g)(I:In w.params g k.self 638 k.al)(At:dS k)(b:Bk k B ops args sorts ae xs h)(hA:Rm A 5)(hz:B.length<=4990)
  (e:B[i]? =some r)(hs:r.2.2.1=1\/r.2.2.1=2)(hn:lK r)
  (K:∀(j:Nat) t B' av ai af ag aO h',Step [] (Bl k ops args sorts ae xs) h (Bl k av ai af ag aO) h'->Bk k B' av ai af ag aO h'->cH B (-1) 1 i r j B'->R (.ok (.ret (.int j t))) h'):
  Cd A (.call (.ref 488) ⟨[.ref k.self,.int (i:Int) t],[]⟩) R h:=by
 refine aw (ps:=[U "self",U "t"]) (rest:=[]) (ns:=[U "self",U "t"]) (gs:=[]) (vs:=[some (.ref k.self),some (.int (i:Int) t)]) (r:=4) x G hA (fJ G) (fK G) rfl rfl rfl rfl rfl (by decide +kernel) λL g1 h1 env A1 hE bS hr O S F=>?_
 have hb:Bk k B ops args sorts ae xs g:=b.up x.aj
 refine au ?_
 k_extra "T"
 obtain⟨G3,x3,S3⟩:=Fx.bF (by k_extra "s")
 refine Wp.call (dX (k:=k) (B:=B) (n:=-1) (d:=1) x3 (by k_extra "u") (by k_extra "u") At (by k_extra "u") hr (by k_extra "z") e hs hn (by k_extra "u") (by decide) (λζ=>rfl) (by show(1:Nat)<2 ^ 4000;exact Nat.one_lt_two_pow (by decide)) (by show(1:Nat)<2 ^ 4000;exact Nat.one_lt_two_pow (by decide)) λj t B' av ai af ag aO h' st b' mk=>?_)
 obtain⟨g6,S6,F6⟩:=Fx.aT (by k_extra "s") st
 k_extra "T"
 exact ah (K j t B' av ai af ag aO h' (x.done F6 (by k_extra "q")) b' mk)
theorem c8(n:Nat)(hn:n≠0):Bt n 1:=Nat.one_lt_two_pow hn
theorem tA{i:Nat}{n d:Int}{p:Addr}{t tn td:Tok}{r:Row}(x:Gr [] g h (Bl k ops args sorts ae xs))(G:Gd g)(I:In w.params g k.self 638 k.al)(At:dS k)(b:Bk k B ops args sorts ae xs h)(hA:Rm A 5)(hz:B.length<=4990)
  (e:B[i]? =some r)(hs:r.2.2.1=2)(hn:lK r)(hp:Tp h p [.int n tn,.int d td])(Mf:n≠0)(bn:Bt 3990 n)(bd:Bt 3990 d)
  (K:∀(j:Nat) t B' av ai af ag aO h',Step [] (Bl k ops args sorts ae xs) h (Bl k av ai af ag aO) h'->Bk k B' av ai af ag aO h'->cH B (cm (1*d) (1*n)) (bU (1*d) (1*n)) i r j B'->R (.ok (.ret (.int j t))) h'):
  Cd A (.call (.ref 481) ⟨[.ref k.self,.int (i:Int) t,.ref p],[]⟩) R h:=by
 refine aw (ps:=[U "self",U "t",U "value"]) (rest:=[]) (ns:=[U "self",U "t",U "value"]) (gs:=[U "REAL",U "SortFault",U "div"]) (vs:=[some (.ref k.self),some (.int (i:Int) t),some (.ref p)]) (r:=4) x G hA (cU G) (cV G) rfl rfl rfl rfl rfl (by decide +kernel) λL g1 h1 env A1 hE bS hr O S F=>?_
 have hb:Bk k B ops args sorts ae xs g:=b.up x.aj
 have hp:Tp g p [.int n tn,.int d td]:=hp.up x.aj
 refine aP (hb.aR e) λts e3=>?_
 replace e3:=hs▸e3
 have hi:i<B.length:=(List.getElem?_eq_some_iff.mp e).1
 refine au ?_
 k_extra "T"
 refine Wp.call (iw (hr.less (by decide)) (by k_extra "u") (by k_extra "u") At (by k_extra "u") e3 (by k_extra "z") λh2 st=>?_)
 obtain⟨g3,S3,F3⟩:=Fx.aJ (by k_extra "s") st
 try dsimp only
 k_extra "T"
 refine bL (by simpa using Mf) ?_
 k_extra "T"
 refine Wp.call (Dc (a:=1) (b:=1) (hr.less (by decide)) (by k_extra "u") (by k_extra "u") (by k_extra "u") Mf (by decide) (c8 _ (by decide)) (c8 _ (by decide)) (bn.mono (by decide)) (bd.mono (by decide)) λrr u u' h3 L' wY=>?_)
 obtain⟨g4,S4,F4⟩:=Fx.aJ (by k_extra "s") L'
 have wY:=wY.up F4.aj
 try dsimp only
 k_extra "T"
 obtain⟨G3,x3,S3⟩:=Fx.bF (by k_extra "s")
 have Ih:(1*n:Int)≠0:=by refine(Int.one_mul ..).symm▸?_;exact Mf
 refine Wp.call (dX (k:=k) (B:=B) (n:=cm (1*d) (1*n)) (d:=bU (1*d) (1*n)) x3 (by k_extra "u") (by k_extra "u") At (by k_extra "u") hr (by k_extra "z") e (.inr hs) hn (by k_extra "u") (Int.ne_of_gt (dK _ Ih)) (λq=>absurd (hs.symm.trans q) (by decide)) (uC Ih ((by refine(Int.one_mul ..).symm▸?_;exact bd.mono (by decide)))) (uD Ih (by refine(Int.one_mul ..).symm▸?_;exact bn.mono (by decide))) λj t B' av ai af ag aO h' st b' mk=>?_)
 obtain⟨g6,S6,F6⟩:=Fx.aT (by k_extra "s") st
 k_extra "T"
 exact ah (K j t B' av ai af ag aO h' (x.done F6 (by k_extra "q")) b' mk)
def uI(B:List Row)(is:List Int):Prop:=∀z∈is,∃(i:Nat) (r:Row),z=(i:Int)/\B[i]? =some r/\r.2.2.1=0
def Ii(B:List Row)(is:List Int)(j:Nat)(B':List Row):Prop:=
 (is=[]/\j=1/\B'=B)\/(is=[(j:Int)]/\B'=B)\/(2<=is.length/\Mk B (U "and",is,0,.inl 0) j B')
theorem qk{vs:List Value}{is:List Int}(x:IntsAre vs is):∀v∈vs,∃z t,v= .int z t/\z∈is:=by
 induction x with
 |nil=>intro v hv;cases hv
 |cons n t _ ih=>
  intro v hv
  rcases List.mem_cons.mp hv with rfl|hv
  ·exact⟨_,_,rfl,List.mem_cons_self⟩
  ·refine dm (ih v hv) λz u q1 q2=>?_
   exact⟨z,u,q1,List.mem_cons_of_mem _ q2⟩
theorem cp{vs:List Value}{is:List Int}(x:IntsAre vs is):vs.length=is.length:=by
 induction x with
 |nil=>rfl
 |cons n t _ ih=>simp[ih]
theorem zu{a:Addr}{vs:List Value}{is:List Int}{tt:Tok}(x:Gr [] g h (Bl k ops args sorts ae xs))(G:Gd g)(I:In w.params g k.self 638 k.al)(At:dS k)(AO:k.al.lookup (U "true_number")=some (.int 1 tt))(b:Bk k B ops args sorts ae xs h)(hA:Rm A 4)(hz:B.length<=4990)
  (hl:Ls h a vs)(Vx:Ls g a vs)(hi:IntsAre vs is)(hb:uI B is)(hlen:is.length<=100)
  (K:∀(j:Nat) t B' av ai af ag aO h',Step [] (Bl k ops args sorts ae xs) h (Bl k av ai af ag aO) h'->Bk k B' av ai af ag aO h'->Ii B is j B'->R (.ok (.ret (.int j t))) h'):
  Cd A (.call (.ref 350) ⟨[.ref k.self,.ref a],[]⟩) R h:=by
 refine aw (ps:=[U "self",U "some"]) (rest:=[]) (ns:=[U "self",U "some"]) (gs:=[U "BOOL",U "len",U "tuple"]) (vs:=[some (.ref k.self),some (.ref a)]) (r:=3) x G hA (iJ G) (iK G) rfl rfl rfl rfl rfl (by decide +kernel) λL g1 h1 env A1 hE bS hr O S F=>?_
 have R6:Bk k B ops args sorts ae xs g:=b.up x.aj
 obtain⟨a1,a2,a3,a4,a5,a6,a7⟩:=id At
 have R7:=cp hi
 refine au ?_
 k_extra "T"
 refine Wp.call (lJ (s:=0) (hr.less (by decide)) (by k_extra "u") (by k_extra "u") At (by k_extra "u") (by k_extra "u") (λv hv=>?_) λh2 st=>?_)
 ·refine dm (qk hi v hv) λz u ak hm=>?_
  obtain rfl:=ak
  refine fv (hb z hm) λi r ak e e0=>?_
  obtain rfl:=ak
  refine aP (R6.aR e) λts e3=>?_
  have hi:i<B.length:=(List.getElem?_eq_some_iff.mp e).1
  replace e3:=e0▸e3
  exact⟨i,_,_,rfl,e3,by k_extra "z"⟩
 obtain⟨g4,S4,F4⟩:=Fx.aJ (by k_extra "s") st
 try dsimp only
 k_extra "T"
 by_cases h0:is=[]
 ·subst h0
  cases hi
  refine eN (by simp) ?_
  k_extra "T"
  exact ah (K 1 _ B ops args sorts ae xs _ (x.done (by k_extra "s") (by k_extra "q")) (by k_extra "u") (.inl ⟨rfl,rfl,rfl⟩))
 ·rw[if_neg (by
   intro q
   have:vs.length=0:=by simpa using q
   replace this:=R7▸this
   exact h0 (List.length_eq_zero_iff.mp this))]
  k_extra "T"
  by_cases h1:is.length=1
  ·refine aP (List.length_eq_one_iff.mp h1) λz ak=>?_
   obtain rfl:=ak
   refine fv (hb z List.mem_cons_self) λi r ak e e0=>?_
   obtain rfl:=ak
   cases hi with
   |cons _ t Ij=>
    cases Ij
    refine eN (by simp) ?_
    k_extra "T"
    exact ah (K i _ B ops args sorts ae xs _ (x.done (by k_extra "s") (by k_extra "q")) (by k_extra "u") (.inr (.inl ⟨rfl,rfl⟩)))
  ·rw[if_neg (by
    intro q
    have:vs.length=1:=by
     have:(vs.length:Int)=1:=by simpa using q
     lia
    lia)]
   k_extra "T"
   obtain⟨G3,x3,S3⟩:=Fx.bF (by k_extra "s")
   have h2:2<=is.length:=by
    have:is.length≠0:=λq=>h0 (List.length_eq_zero_iff.mp q)
    lia
   refine Wp.call (fo (k:=k) (B:=B) (d:=.inl 0) (is:=is) x3 (by k_extra "u") (by k_extra "u") At (by k_extra "u") (hr.less (by decide)) (by k_extra "z") (by decide +kernel) ⟨_,_,rfl,by k_extra "u",hi⟩ ⟨_,rfl⟩ λj t B' av ai af ag aO h' st b' mk=>?_)
   obtain⟨g6,S6,F6⟩:=Fx.aT (by k_extra "s") st
   k_extra "T"
   exact ah (K j t B' av ai af ag aO h' (x.done F6 (by k_extra "q")) b' (.inr (.inr ⟨h2,mk⟩)))
end
section
variable{A:Around}{h g:Heap}{R:Result->Heap->Prop}{k:dg}{B:List Row}{ops args sorts ae:List Value}{xs:List (Row×Addr×Value)}{nt:Addr}
theorem fq{i:Nat}{t:Tok}{r:Row}(hA:Rm A 2)(G:Gd h)(N:In w.params h nt 732 [(U "bank",.ref k.self)])(I:In w.params h k.self 638 k.al)(At:dS k)(b:Bk k B ops args sorts ae xs h)(O5:Ls h k.ops ops)(R8:Ls h k.ae ae)(e:B[i]? =some r)(hz:B.length<=5000)
  (K:∀v h',Step [] [] h [] h'->((r.1=U "num"/\ae[i]? =some v)\/(r.1≠U "num"/\v= .none))->R (.ok (.ret v)) h'):Cd A (.call (.ref 661) ⟨[.ref nt,.int (i:Int) t],[]⟩) R h:=by
 refine aw (ps:=[U "self",U "t"]) (rest:=[]) (ns:=[U "self",U "t"]) (gs:=[]) (vs:=[some (.ref nt),some (.int (i:Int) t)]) (r:=1) (Gr.nil h) G hA (e9 G) (e_ G) rfl rfl rfl rfl rfl (by decide +kernel) λL g1 h1 env A1 hE bS hr O S F=>?_
 obtain⟨to,ts,va,vd,e1,e2,e3,e4,ra,rd⟩:=b.rows.row e
 have hi:i<B.length:=(List.getElem?_eq_some_iff.mp e).1
 refine au ?_
 k_extra "T"
 refine Wp.call (pT hr (by k_extra "u") (by k_extra "u") At (by k_extra "u") e1 (by k_extra "z") λh2 st=>?_)
 obtain⟨g3,S3,F3⟩:=Fx.aJ (by k_extra "s") st
 try dsimp only
 k_extra "T"
 by_cases cZ:r.1=U "num"
 ·refine eN (by simpa using cZ) ?_
  k_extra "T"
  refine Wp.call (iS hr (by k_extra "u") (by k_extra "u") At (by k_extra "u") e4 (by k_extra "z") λh2 st=>?_)
  obtain⟨g4,S4,F4⟩:=Fx.aJ (by k_extra "s") st
  try dsimp only
  k_extra "T"
  exact ah (K _ _ ((Gr.nil h).done (by k_extra "s") (by k_extra "q")) (.inl ⟨cZ,e4⟩))
 ·refine bL (by simpa using cZ) ?_
  k_extra "T"
  exact ah (K _ _ ((Gr.nil h).done (by k_extra "s") (by k_extra "q")) (.inr ⟨cZ,rfl⟩))
def zv(B:List Row)(i:Nat)(r:Row)(j:Nat)(B':List Row):Prop:=
 (r.1=U "num"/\r.2.2.1=1/\∃a b,r.2.2.2= .inr (a,b)/\Mk B (U "num",[],2,.inr (a,b)) j B')\/(¬(r.1=U "num"/\r.2.2.1=1)/\j=i/\B'=B)
theorem vU{i:Nat}{t:Tok}{r:Row}(x:Gr [] g h (Bl k ops args sorts ae xs))(G:Gd g)(N:In w.params g nt 732 [(U "bank",.ref k.self)])(I:In w.params g k.self 638 k.al)(At:dS k)(b:Bk k B ops args sorts ae xs h)(hA:Rm A 5)(hz:B.length<=4990)
  (e:B[i]? =some r)(hn:lK r)
  (K:∀(j:Nat) t B' av ai af ag aO h',Step [] (Bl k ops args sorts ae xs) h (Bl k av ai af ag aO) h'->Bk k B' av ai af ag aO h'->zv B i r j B'->R (.ok (.ret (.int j t))) h'):
  Cd A (.call (.ref 668) ⟨[.ref nt,.int (i:Int) t],[]⟩) R h:=by
 refine aw (ps:=[U "self",U "t"]) (rest:=[]) (ns:=[U "self",U "t"]) (gs:=[U "INT",U "REAL"]) (vs:=[some (.ref nt),some (.int (i:Int) t)]) (r:=4) x G hA (cW G) (cX G) rfl rfl rfl rfl rfl (by decide +kernel) λL g1 h1 env A1 hE bS hr O S F=>?_
 have hb:Bk k B ops args sorts ae xs g:=b.up x.aj
 obtain⟨to,ts,va,vd,e1,e2,e3,e4,ra,rd⟩:=hb.rows.row e
 have hi:i<B.length:=(List.getElem?_eq_some_iff.mp e).1
 refine au ?_
 k_extra "T"
 refine Wp.call (pT (hr.less (by decide)) (by k_extra "u") (by k_extra "u") At (by k_extra "u") e1 (by k_extra "z") λh2 st=>?_)
 obtain⟨g3,S3,F3⟩:=Fx.aJ (by k_extra "s") st
 try dsimp only
 k_extra "T"
 by_cases cZ:r.1=U "num"
 ·refine eN (by simpa using cZ) ?_
  k_extra "T"
  refine Wp.call (iR (hr.less (by decide)) (by k_extra "u") (by k_extra "u") At (by k_extra "u") e3 (by k_extra "z") λh2 st=>?_)
  obtain⟨g4,S4,F4⟩:=Fx.aJ (by k_extra "s") st
  try dsimp only
  k_extra "T"
  by_cases hs:r.2.2.1=1
  ·rw[if_pos (by simpa using hs)]
   refine K6 (hn cZ) λa c q1 q2 q3 q4 q5=>?_
   replace rd:=q1▸rd
   k_extra "T"
   refine Wp.call (iS (hr.less (by decide)) (by k_extra "u") (by k_extra "u") At (by k_extra "u") e4 (by k_extra "z") λh2 st=>?_)
   obtain⟨g5,S5,F5⟩:=Fx.aJ (by k_extra "s") st
   try dsimp only
   k_extra "T"
   obtain⟨G3,x3,S3⟩:=Fx.bF (by k_extra "s")
   refine Wp.call (jM (n:=a) (d:=c) (B:=B) x3 (by k_extra "u") (by k_extra "u") At (by k_extra "u") (hr.less (by decide)) (by k_extra "z") (by k_extra "u") (.inr rfl) (λq=>absurd q (by decide)) λj t B' av ai af ag aO h' st b' mk=>?_)
   obtain⟨g6,S6,F6⟩:=Fx.aT (by k_extra "s") st
   k_extra "T"
   exact ah (K j t B' av ai af ag aO h' (x.done F6 (by k_extra "q")) b' (.inl ⟨cZ,hs,a,c,q1,mk⟩))
  ·refine bL (by simpa using hs) ?_
   k_extra "T"
   exact ah (K i _ B ops args sorts ae xs _ (x.done (by k_extra "s") (by k_extra "q")) (by k_extra "u") (.inr ⟨λq=>hs q.2,rfl,rfl⟩))
 ·refine bL (by simpa using cZ) ?_
  k_extra "T"
  exact ah (K i _ B ops args sorts ae xs _ (x.done (by k_extra "s") (by k_extra "q")) (by k_extra "u") (.inr ⟨λq=>cZ q.1,rfl,rfl⟩))
theorem mx{i:Nat}{t:Tok}{r:Row}(x:Gr [] g h (Bl k ops args sorts ae xs))(G:Gd g)(N:In w.params g nt 732 [(U "bank",.ref k.self)])(I:In w.params g k.self 638 k.al)(At:dS k)(b:Bk k B ops args sorts ae xs h)(hA:Rm A 6)(hz:B.length<=4990)
  (e:B[i]? =some r)(hs:r.2.2.1=1\/r.2.2.1=2)(hn:lK r)
  (K:∀(j:Nat) t B' av ai af ag aO h',Step [] (Bl k ops args sorts ae xs) h (Bl k av ai af ag aO) h'->Bk k B' av ai af ag aO h'->cH B (-1) 1 i r j B'->R (.ok (.ret (.int j t))) h'):
  Cd A (.call (.ref 689) ⟨[.ref nt,.int (i:Int) t],[]⟩) R h:=by
 refine aw (ps:=[U "self",U "t"]) (rest:=[]) (ns:=[U "self",U "t"]) (gs:=[]) (vs:=[some (.ref nt),some (.int (i:Int) t)]) (r:=5) x G hA (fb G) (fe G) rfl rfl rfl rfl rfl (by decide +kernel) λL g1 h1 env A1 hE bS hr O S F=>?_
 have hb:Bk k B ops args sorts ae xs g:=b.up x.aj
 refine au ?_
 k_extra "T"
 obtain⟨G3,x3,S3⟩:=Fx.bF (by k_extra "s")
 refine Wp.call (th (k:=k) (B:=B) x3 (by k_extra "u") (by k_extra "u") At (by k_extra "u") hr (by k_extra "z") e hs hn λj t B' av ai af ag aO h' st b' mk=>?_)
 obtain⟨g6,S6,F6⟩:=Fx.aT (by k_extra "s") st
 k_extra "T"
 exact ah (K j t B' av ai af ag aO h' (x.done F6 (by k_extra "q")) b' mk)
end
theorem Gd.zero{h:Heap}(G:Gd h):Tp h 70 [.int 0 259,.int 1 260]:=⟨0,Ea G⟩
def Ext(B B':List Row):Prop:=∃C,B'=B++C
theorem Ext.refl(B:List Row):Ext B B:=⟨[],by simp⟩
theorem Ext.trans{a b c:List Row}(x:Ext a b)(y:Ext b c):Ext a c:=by
 obtain⟨p,rfl⟩:=x;obtain⟨q,rfl⟩:=y;exact⟨p++q,by simp⟩
theorem Ext.get{B B':List Row}(x:Ext B B'){i:Nat}{r:Row}(e:B[i]? =some r):B'[i]? =some r:=by
 refine aP x λC ak=>?_
 clear x
 obtain rfl:=ak
 refine(List.getElem?_append_left (List.getElem?_eq_some_iff.mp e).1).symm▸?_;exact e
theorem Mk.ext{B B':List Row}{r:Row}{j:Nat}(m:Mk B r j B'):Ext B B':=by
 rcases m with⟨rfl,_,_⟩|⟨_,rfl,_⟩
 ·exact .refl _
 ·exact⟨[r],rfl⟩
theorem Mk.at{B B':List Row}{r:Row}{j:Nat}(m:Mk B r j B'):B'[j]? =some r:=by
 rcases m with⟨rfl,h,_⟩|⟨_,rfl,rfl⟩
 ·exact h
 ·simp
theorem cH.ext{B B':List Row}{n d:Int}{i j:Nat}{r:Row}(m:cH B n d i r j B'):Ext B B':=by
 rcases m with⟨_,a,b,_,m⟩|⟨_,_,_,_,rfl⟩|⟨_,_,dB,dP,m1,m2⟩
 ·exact m.ext
 ·exact .refl _
 ·exact m1.ext.trans m2.ext
theorem cH.at{B B':List Row}{n d:Int}{i j:Nat}{r:Row}(m:cH B n d i r j B')(e:B[i]? =some r):∃r',B'[j]? =some r'/\r'.2.2.1=r.2.2.1:=by
 rcases m with⟨_,a,b,_,m⟩|⟨_,_,_,rfl,rfl⟩|⟨_,_,dB,dP,m1,m2⟩
 ·exact⟨_,m.at,rfl⟩
 ·exact⟨r,e,rfl⟩
 ·exact⟨_,m2.at,rfl⟩
theorem cH.len{B B':List Row}{n d:Int}{i j:Nat}{r:Row}(m:cH B n d i r j B'):B'.length<=B.length+2:=by
 rcases m with⟨_,a,b,_,m⟩|⟨_,_,_,rfl,rfl⟩|⟨_,_,dB,dP,m1,m2⟩
 ·have:=m.len;k_extra "z"
 ·k_extra "z"
 ·have:=m1.len;have:=m2.len;k_extra "z"
def jO(B:List Row)(i:Nat)(r:Row)(j:Nat)(B':List Row):Prop:=∃my iz,Mk B (U "num",[],r.2.2.1,.inr (0,1)) my iz/\
 ((r.1=U "num"/\∃a c,r.2.2.2= .inr (a,c)/\((0<=a/\j=i/\B'=iz)\/(a<0/\Mk iz (U "num",[],r.2.2.1,.inr (-a,c)) j B')))\/
 (r.1≠U "num"/\∃dB dP mA j6,Mk iz (U "<=",[(my:Int),(i:Int)],0,.inl 0) dB dP/\cH dP (-1) 1 i r mA j6/\Mk j6 (U "ite",[(dB:Int),(i:Int),(mA:Int)],r.2.2.1,.inl 0) j B'))
section
variable{A:Around}{h g:Heap}{R:Result->Heap->Prop}{k:dg}{B:List Row}{ops args sorts ae:List Value}{xs:List (Row×Addr×Value)}{nt:Addr}
theorem vV{i:Nat}{t:Tok}{r:Row}(x:Gr [] g h (Bl k ops args sorts ae xs))(G:Gd g)(N:In w.params g nt 732 [(U "bank",.ref k.self)])(I:In w.params g k.self 638 k.al)(At:dS k)(b:Bk k B ops args sorts ae xs h)(hA:Rm A 8)(hz:B.length<=4900)
  (e:B[i]? =some r)(hs:r.2.2.1=1\/r.2.2.1=2)(hn:lK r)
  (K:∀(j:Nat) t B' av ai af ag aO h',Step [] (Bl k ops args sorts ae xs) h (Bl k av ai af ag aO) h'->Bk k B' av ai af ag aO h'->jO B i r j B'->R (.ok (.ret (.int j t))) h'):
  Cd A (.call (.ref 722) ⟨[.ref nt,.int (i:Int) t],[]⟩) R h:=by
 refine aw (ps:=[U "self",U "t"]) (rest:=[U "nought",U "value"]) (ns:=[U "self",U "t",U "nought",U "value"]) (gs:=[U "ZERO",U "neg"]) (vs:=[some (.ref nt),some (.int (i:Int) t),none,none]) (r:=7) x G hA (fU G) (fV G) rfl rfl rfl rfl rfl (by decide +kernel) λL g1 h1 env A1 hE bS hr O S F=>?_
 have hb:Bk k B ops args sorts ae xs g:=b.up x.aj
 obtain⟨to,ts,va,vd,e1,e2,e3,e4,ra,rd⟩:=hb.rows.row e
 have hi:i<B.length:=(List.getElem?_eq_some_iff.mp e).1
 have hZ:Tp g 70 [.int 0 259,.int 1 260]:=G.zero
 refine au ?_
 k_extra "T"
 refine Wp.call (iR (hr.less (by decide)) (by k_extra "u") (by k_extra "u") At (by k_extra "u") e3 (by k_extra "z") λh2 st=>?_)
 obtain⟨g3,S3,F3⟩:=Fx.aJ (by k_extra "s") st
 try dsimp only
 k_extra "T"
 obtain⟨G3,x3,S3⟩:=Fx.bF (by k_extra "s")
 refine Wp.call (jM (n:=0) (d:=1) (B:=B) x3 (by k_extra "u") (by k_extra "u") At (by k_extra "u") (hr.less (by decide)) (by k_extra "z") ⟨_,_,_,rfl,by k_extra "u"⟩ hs (λζ=>rfl) λmy t₀ iz Mh J3 Ik Il O6 h₀ Im vP m₀=>?_)
 obtain⟨g6,S6,F6⟩:=Fx.aT (by k_extra "s") Im
 have vP:=vP.up F6.aj
 have BK:=m₀.ext.get e
 have l₀:=m₀.len
 obtain⟨Vy,Ig,Rn,Ro,O7,O8,lL,R9,O9,Mi⟩:=vP.rows.row BK
 try dsimp only
 k_extra "T"
 refine Wp.call (fq (hr.less (by decide)) (by k_extra "u") (by k_extra "u") (by k_extra "u") At (by k_extra "u") (by k_extra "u") (by k_extra "u") BK (by k_extra "z") λv h2 st hv=>?_)
 obtain⟨g7,S7,F7⟩:=Fx.aJ (by k_extra "s") st
 try dsimp only
 k_extra "T"
 rcases hv with⟨cZ,hv⟩|⟨cZ,rfl⟩
 ·refine K6 (hn cZ) λa c q1 q2 q3 q4 q5=>?_
  replace hv:=R9▸hv
  cases hv
  replace Mi:=q1▸Mi
  refine jH (id Mi) λp ta tc ak hp=>?_
  obtain rfl:=ak
  k_extra "T"
  by_cases ha:0<=a
  ·refine eN (by simpa using ha) ?_
   k_extra "T"
   exact ah (K i _ iz _ _ _ _ _ _ (x.done (by k_extra "s") (by k_extra "q")) (by k_extra "u") ⟨my,iz,m₀,.inl ⟨cZ,a,c,q1,.inl ⟨ha,rfl,rfl⟩⟩⟩)
  ·refine bL (by simpa using ha) ?_
   k_extra "T"
   refine Wp.call (HP (hr.less (by decide)) (by k_extra "u") (by k_extra "u") λrr t1 t2 h2 st wY=>?_)
   obtain⟨g8,S8,F8⟩:=Fx.aJ (by k_extra "s") st
   have wY:=wY.up F8.aj
   try dsimp only
   k_extra "T"
   refine Wp.call (iR (hr.less (by decide)) (by k_extra "u") (by k_extra "u") At (by k_extra "u") lL (by k_extra "z") λh2 st=>?_)
   obtain⟨g9,S9,F9⟩:=Fx.aJ (by k_extra "s") st
   try dsimp only
   k_extra "T"
   obtain⟨G3,x3,S3⟩:=Fx.bF (by k_extra "s")
   refine Wp.call (jM (n:=-a) (d:=c) (B:=iz) x3 (by k_extra "u") (by k_extra "u") At (by k_extra "u") (hr.less (by decide)) (by k_extra "z") ⟨_,_,_,rfl,by k_extra "u"⟩ hs q3 λj t B' av ai af ag aO h' st b' mk=>?_)
   obtain⟨j7,ft,fC⟩:=Fx.aT (by k_extra "s") st
   k_extra "T"
   exact ah (K j t B' av ai af ag aO h' (x.done fC (by k_extra "q")) b' ⟨my,iz,m₀,.inl ⟨cZ,a,c,q1,.inr ⟨by lia,mk⟩⟩⟩)
 ·k_extra "T"
  obtain⟨G3,x3,S3⟩:=Fx.bF (by k_extra "s")
  refine Wp.call (Ma (B:=iz) x3 (by k_extra "u") (by k_extra "u") At (by k_extra "u") (hr.less (by decide)) (by k_extra "z") m₀.at BK hs rfl λdB L_ dP ER BJ zk zo Ie h₁ zp zq m₁=>?_)
  obtain⟨j7,ft,fC⟩:=Fx.aT (by k_extra "s") zp
  have zq:=zq.up fC.aj
  have l₁:=m₁.len
  have nG:=m₁.ext.get BK
  try dsimp only
  k_extra "T"
  obtain⟨G4,x4,S4⟩:=Fx.bF (by k_extra "s")
  refine Wp.call (mx (B:=dP) x4 (by k_extra "u") (by k_extra "u") (by k_extra "u") At (by k_extra "u") (hr.less (by decide)) (by k_extra "z") nG hs hn λmA R_ j6 Mj J4 Ip Iq O' bj Ir It m₂=>?_)
  obtain⟨iU,iE,iA⟩:=Fx.aT (by k_extra "s") Ir
  have It:=It.up iA.aj
  have aQ:=m₂.len
  have sD:=m₂.ext.get nG
  refine aU (m₂.at nG) λr' kx AP=>?_
  try dsimp only
  k_extra "T"
  obtain⟨G5,x5,S5⟩:=Fx.bF (by k_extra "s")
  refine Wp.call (Dp (B:=j6) x5 (by k_extra "u") (by k_extra "u") At (by k_extra "u") (hr.less (by decide)) (by k_extra "z") (m₂.ext.get m₁.at) sD kx rfl AP λj t B' av ai af ag aO h' st b' mk=>?_)
  obtain⟨jP,dh,dY⟩:=Fx.aT (by k_extra "s") st
  k_extra "T"
  exact ah (K j t B' av ai af ag aO h' (x.done dY (by k_extra "q")) b' ⟨my,iz,m₀,.inr ⟨cZ,dB,dP,mA,j6,m₁,m₂,mk⟩⟩)
end
noncomputable abbrev PV:=Bool ⊕ Int×Int
structure Pt where
 p:Bool
 i:Int×Int
 j:Int×Int
 u:Int×Int
 v:Int×Int
noncomputable def Pt.get(pt:Pt)(x:Str):Option PV:=
 if x=U "p" then some (.inl pt.p) else if x=U "i" then some (.inr pt.i) else if x=U "j" then some (.inr pt.j) else if x=U "u" then some (.inr pt.u) else if x=U "v" then some (.inr pt.v) else none
def aK(n:Nat)(q:Int×Int):Prop:=Bt n q.1/\Bt n q.2/\0<q.2
structure n9(pt:Pt):Prop where
 i:aK 20 pt.i
 j:aK 20 pt.j
 u:aK 20 pt.u
 v:aK 20 pt.v
noncomputable def dQ:List Str:=[U "p",U "q",U "i",U "j",U "u",U "v"]
noncomputable def cq(p q:Int×Int):Bool:=decide (p.1*q.2<q.1*p.2)
noncomputable def Dq(n:Nat):PV->Prop
 | .inl _=>True
 | .inr q=>aK n q
inductive Op:Str->List PV->PV->Prop
 |and (bs:List Bool):Op (U "and") (bs.map .inl) (.inl (bs.all id))
 |le (p q:Int×Int):Op (U "<=") [.inr p,.inr q] (.inl (cq p q||!cq q p))
 |lt (p q:Int×Int):Op (U "<") [.inr p,.inr q] (.inl (cq p q))
 |plus (p q:Int×Int):Op (U "+") [.inr p,.inr q] (.inr (p.1*q.2+q.1*p.2,p.2*q.2))
 |times (p q:Int×Int):Op (U "*") [.inr p,.inr q] (.inr (p.1*q.1,p.2*q.2))
inductive Wt(B:List Row)(pt:Pt):Nat->Nat->PV->Prop
 |num {d i:Nat} {is:List Int} {s:Int} {q:Int×Int}:B[i]? =some (U "num",is,s,.inr q)->aK 3000 q->Wt B pt d i (.inr q)
 |app {d i f:Nat} {is:List Int} {s:Int} {x:Str} {v:PV}:B[i]? =some (U "app",is,s,.inl (f:Int))->dQ[f]? =some x->pt.get x=some v->Dq 3000 v->Wt B pt d i v
 |tt {d i:Nat} {is:List Int} {s:Int} {x:Int ⊕ Int×Int}:B[i]? =some (U "true",is,s,x)->Wt B pt d i (.inl true)
 |ite {d i c a b:Nat} {s:Int} {x:Int ⊕ Int×Int} {bc:Bool} {v:PV}:B[i]? =some (U "ite",[(c:Int),(a:Int),(b:Int)],s,x)->Wt B pt d c (.inl bc)->Wt B pt d (if bc then a else b) v->Wt B pt (d+1) i v
 |op {d i:Nat} {o:Str} {js:List Nat} {us:List PV} {v:PV} {s:Int} {x:Int ⊕ Int×Int}:B[i]? =some (o,js.map (λ(j:Nat)=>(j:Int)),s,x)->js.length=us.length->js.length<=100->(∀(n j:Nat) (u:PV),js[n]? =some j->us[n]? =some u->Wt B pt d j u)->Op o us v->Wt B pt (d+1) i v
theorem Wt.two{B:List Row}{pt:Pt}{d i a b:Nat}{o:Str}{u u' v:PV}{s:Int}{x:Int ⊕ Int×Int}(h:B[i]? =some (o,[(a:Int),(b:Int)],s,x))(p:Wt B pt d a u)(q:Wt B pt d b u')(z:Op o [u,u'] v):Wt B pt (d+1) i v:=
 .op (js:=[a,b]) h rfl (by simp) (λn j w e1 e2=>by
  cases n with
  |zero=>cases e1;cases e2;exact p
  |succ n=>cases n with
   |zero=>cases e1;cases e2;exact q
   |succ n=>cases e1) z
theorem Wt.ext{B B':List Row}{pt:Pt}{d i:Nat}{v:PV}(e:Ext B B')(x:Wt B pt d i v):Wt B' pt d i v:=by
 induction x with
 |num h a=>exact .num (e.get h) a
 |app h a b c=>exact .app (e.get h) a b c
 |tt h=>exact .tt (e.get h)
 |ite h _ _ i1 i2=>exact .ite (e.get h) i1 i2
 |op h a b _ z ih=>exact .op (e.get h) a b ih z
theorem Wt.up{B:List Row}{pt:Pt}{d i:Nat}{v:PV}(x:Wt B pt d i v):Wt B pt (d+1) i v:=by
 induction x with
 |num h a=>exact .num h a
 |app h a b c=>exact .app h a b c
 |tt h=>exact .tt h
 |ite h _ _ i1 i2=>exact .ite h i1 i2
 |op h a b _ z ih=>exact .op h a b ih z
theorem Wt.ET{B:List Row}{pt:Pt}{d e i:Nat}{v:PV}(x:Wt B pt d i v)(h:d<=e):Wt B pt e i v:=by
 induction h with
 |refl=>exact x
 |step _ ih=>exact ih.up
theorem aK.mono{n m:Nat}{q:Int×Int}(x:aK n q)(h:n<=m):aK m q:=⟨x.1.mono h,x.2.1.mono h,x.2.2⟩
noncomputable def wb(d:Nat):Nat:=3000*3 ^ d
theorem n_(d:Nat):wb (d+1)=wb d*3:=by unfold wb;refine(Nat.pow_succ ..).symm▸?_;lia
theorem tB(d:Nat):3000<=wb d:=by unfold wb;exact Nat.le_mul_of_pos_right _ (Nat.pow_pos (by decide))
theorem Op.ok{o:Str}{us:List PV}{v:PV}{d:Nat}(x:Op o us v)(h:∀(n:Nat) (u:PV),us[n]? =some u->Dq (wb d) u):Dq (wb (d+1)) v:=by
 have hw:=tB d
 cases x with
 |plus p q=>
  have a:=h 0 _ rfl
  have b:=h 1 _ rfl
  refine⟨(Bt.add (n:=wb d+wb d) (a.1.mul b.2.1) (b.1.mul a.2.1)).mono ?_,(a.2.1.mul b.2.1).mono ?_,Int.mul_pos a.2.2 b.2.2⟩ <;> rw[n_] <;> lia
 |times p q=>
  have a:=h 0 _ rfl
  have b:=h 1 _ rfl
  refine⟨(a.1.mul b.1).mono ?_,(a.2.1.mul b.2.1).mono ?_,Int.mul_pos a.2.2 b.2.2⟩ <;> rw[n_] <;> lia
 |_=>trivial
theorem Dq.mono{n m:Nat}{v:PV}(x:Dq n v)(h:n<=m):Dq m v:=by
 cases v with
 |inl b=>trivial
 |inr q=>exact aK.mono x h
theorem Wt.ok{B:List Row}{pt:Pt}{d i:Nat}{v:PV}(x:Wt B pt d i v):Dq (wb d) v:=by
 induction x with
 |@num d i is s q h a=>exact a.mono (tB d)
 |@app d i f is s x v h a b c=>exact c.mono (tB d)
 |tt h=>trivial
 |@ite d i c a b s x bc v h _ _ i1 i2=>exact i2.mono (by refine(n_ ..).symm▸?_;lia)
 |@op d i o js us v s x h a b _ z ih=>
  exact z.ok λn u e=>by
   have hn:n<js.length:=a▸(List.getElem?_eq_some_iff.mp e).1
   exact ih n _ u (List.getElem?_eq_getElem hn) e
structure dD(n:Nat)(s:Int)(a b:Int):Prop where
 pos:0<b
 Dr:Int.gcd a b=1
 whole:s=1->b=1
 ba:Bt n a
 bb:Bt n b
def ju(n:Nat)(r:Row):Prop:=r.1=U "num"->∃a b,r.2.2.2= .inr (a,b)/\dD n r.2.2.1 a b
theorem dD.mono{n m:Nat}{s a b:Int}(x:dD n s a b)(h:n<=m):dD m s a b:=⟨x.pos,x.Dr,x.whole,x.ba.mono h,x.bb.mono h⟩
theorem ju.mono{n m:Nat}{r:Row}(x:ju n r)(h:n<=m):ju m r:=λe=>let⟨a,b,q,l⟩:=x e;⟨a,b,q,l.mono h⟩
theorem ju.ok{n:Nat}{r:Row}(x:ju n r)(h:n<=4000):lK r:=λe=>let⟨a,b,q,l⟩:=x e;⟨a,b,q,Int.ne_of_gt l.pos,l.whole,l.ba.mono h,l.bb.mono h⟩
structure aF(B:List Row)(n d:Nat)(s:Int)(j:Nat):Prop where
 row:∃r,B[j]? =some r/\r.2.2.1=s/\ju n r
 worth:∀pt,n9 pt->∃q,Wt B pt d j (.inr q)
theorem aF.ext{B B':List Row}{n d:Nat}{s:Int}{j:Nat}(e:Ext B B')(x:aF B n d s j):aF B' n d s j:=
 ⟨let⟨r,a,b⟩:=x.row;⟨r,e.get a,b⟩,λpt h=>let⟨q,a⟩:=x.worth pt h;⟨q,a.ext e⟩⟩
theorem aF.mono{B:List Row}{n n' d d':Nat}{s:Int}{j:Nat}(x:aF B n d s j)(h:n<=n')(hd:d<=d'):aF B n' d' s j:=
 ⟨let⟨r,a,b,c⟩:=x.row;⟨r,a,b,c.mono h⟩,λpt p=>let⟨q,a⟩:=x.worth pt p;⟨q,a.ET hd⟩⟩
noncomputable def bC:List Row:=[ik,(U "true",[],0,.inl 0),(U "false",[],0,.inl 0),(U "app",[],0,.inl 0),(U "app",[],0,.inl 1),(U "app",[],1,.inl 2),(U "app",[],1,.inl 3),(U "app",[],2,.inl 4),(U "app",[],2,.inl 5)]
theorem qm:(U "app":Str)≠U "num":=by decide +kernel
theorem og{B:List Row}(e:Ext bC B){s:Int}{j:Nat}(h:(s=1/\(j=5\/j=6))\/(s=2/\(j=7\/j=8))):aF B 0 0 s j:=by
 have key:∀(j f:Nat) (s:Int) (x:Str) (g:Pt->Int×Int),bC[j]? =some (U "app",[],s,.inl (f:Int))->dQ[f]? =some x->(∀pt:Pt,pt.get x=some (.inr (g pt)))->(∀pt:Pt,n9 pt->aK 20 (g pt))->aF B 0 0 s j:=λj f s x g h1 h2 h3 h4=>
  ⟨⟨_,e.get h1,rfl,λq=>absurd q qm⟩,λpt hp=>⟨g pt,.app (e.get h1) h2 (h3 pt) ((h4 pt hp).mono (by decide))⟩⟩
 rcases h with⟨rfl,rfl|rfl⟩|⟨rfl,rfl|rfl⟩
 ·exact key 5 2 1 (U "i") (·.i) rfl rfl (λpt=>by simp[Pt.get,show ¬(U "i"=U "p") by decide +kernel]) λpt h=>h.i
 ·exact key 6 3 1 (U "j") (·.j) rfl rfl (λpt=>by simp[Pt.get,show ¬(U "j"=U "p") by decide +kernel,show ¬(U "j"=U "i") by decide +kernel]) λpt h=>h.j
 ·exact key 7 4 2 (U "u") (·.u) rfl rfl (λpt=>by simp[Pt.get,show ¬(U "u"=U "p") by decide +kernel,show ¬(U "u"=U "i") by decide +kernel,show ¬(U "u"=U "j") by decide +kernel]) λpt h=>h.u
 ·exact key 8 5 2 (U "v") (·.v) rfl rfl (λpt=>by simp[Pt.get,show ¬(U "v"=U "p") by decide +kernel,show ¬(U "v"=U "i") by decide +kernel,show ¬(U "v"=U "j") by decide +kernel,show ¬(U "v"=U "u") by decide +kernel]) λpt h=>h.v
theorem EU{B B':List Row}{n:Nat}{s a b:Int}{j:Nat}(m:Mk B (U "num",[],s,.inr (a,b)) j B')(l:dD n s a b)(hn:n<=3000):aF B' n 0 s j:=
 ⟨⟨_,m.at,rfl,λζ=>⟨a,b,rfl,l⟩⟩,λpt ζ=>⟨(a,b),.num m.at ⟨l.ba.mono hn,l.bb.mono hn,l.pos⟩⟩⟩
theorem gR{n:Nat}{s a b:Int}(hb:b≠0)(hs:s=1->b=1)(ba:Bt n a)(bb:Bt n b):dD n s (cm a b) (bU a b):=by
 refine⟨dK a hb,EA a hb,λh=>?_,uC hb ba,uD hb bb⟩
 have e:=hs h
 subst e
 have h1:=eP a (by decide:(1:Int)≠0)
 have h2:=dK a (by decide:(1:Int)≠0)
 have h3:=Int.eq_one_of_mul_eq_one_right (by lia) h1
 exact h3
theorem oh{n m:Nat}{s a b c d:Int}(x:dD n s a b)(y:dD m s c d)(h1:1<=n)(h2:1<=m):dD (n+m) s (mu a b c d) (jo a b c d):=by
 unfold mu jo
 split
 ·rename_i h
  refine i_ h λak iO=>?_
  clear h
  obtain rfl:=ak
  obtain rfl:=iO
  exact⟨by decide,by simp,λζ=>rfl,x.ba.mul y.ba,(c8 _ (by lia))⟩
 ·rename_i h
  exact gR (Int.mul_ne_zero (Int.ne_of_gt x.pos) (Int.ne_of_gt y.pos)) (λq=>absurd ⟨x.whole q,y.whole q⟩ h) (x.ba.mul y.ba) (x.bb.mul y.bb)
theorem qn{a b c d:Int}(hb:b≠0)(hd:d≠0):bx (mu a b c d) (jo a b c d) (a*c) (b*d):=by
 unfold mu jo
 split
 ·rename_i h
  refine i_ h λak iO=>?_
  clear h
  obtain rfl:=ak
  obtain rfl:=iO
  unfold bx;simp
 ·exact c7 _ (Int.mul_ne_zero hb hd)
theorem lM(a:Int):bU a 1=1:=by
 have q1:=eP a (by decide:(1:Int)≠0)
 have q2:=dK a (by decide:(1:Int)≠0)
 exact Int.eq_one_of_mul_eq_one_right (by lia) q1
theorem zw(a:Int):cm a 1=a:=by
 have q1:=c7 a (by decide:(1:Int)≠0)
 unfold bx at q1
 replace q1:=(lM ..)▸q1
 lia
theorem oi{a:Str}(h:a≠U "num"){r:Row}{is:List Int}{s:Int}{x:Int ⊕ Int×Int}(e:some r=some (a,is,s,x))(hr:r.1=U "num"):False:=by
 cases e;exact h hr
theorem Op.num{us:List PV}{v:PV}{a:Str}(x:Op a us v):a≠U "num":=by cases x <;> decide +kernel
theorem Wt.num_inv{B:List Row}{pt:Pt}{d i:Nat}{v:PV}{r:Row}(e:B[i]? =some r)(hr:r.1=U "num")(x:Wt B pt d i v):∃q,r.2.2.2= .inr q/\v= .inr q:=by
 cases x with
 |num h a=>rw[e] at h;cases h;exact⟨_,rfl,rfl⟩
 |app h a b c=>rw[e] at h;exact(oi (by decide +kernel) h hr).elim
 |tt h=>rw[e] at h;exact(oi (by decide +kernel) h hr).elim
 |ite h _ _=>rw[e] at h;exact(oi (by decide +kernel) h hr).elim
 |op h a b _ z=>rw[e] at h;exact(oi z.num h hr).elim
theorem dD.rat{n:Nat}{s a b:Int}(l:dD n s a b)(h:n<=3000):aK 3000 (a,b):=⟨l.ba.mono h,l.bb.mono h,l.pos⟩
theorem dZ{B B':List Row}{n d s:Int}{i j nn mm dd:Nat}{r:Row}{pt:Pt}{q:Int×Int}(m:cH B n d i r j B')(e:B[i]? =some r)(hn:ju nn r)(hs:r.2.2.1=s)(l:dD mm s n d)(h1:1<=nn)(h2:1<=mm)(h3:mm+nn<=3000)(x:Wt B pt dd i (.inr q)):
  ∃q',Wt B' pt (dd+1) j (.inr q')/\bx q'.1 q'.2 (q.1*n) (q.2*d):=by
 rcases m with⟨hr,a,b,hd,m⟩|⟨hr,rfl,rfl,rfl,rfl⟩|⟨hr,_,dB,dP,m1,m2⟩
 ·refine dm (hn hr) λa' b' mn la=>?_
  replace mn:=hd▸mn;cases mn
  refine aU (x.num_inv e hr) λq' hq hv=>?_
  replace hq:=hd▸hq;cases hq;cases hv
  have lm:=oh (s:=r.2.2.1) (hs▸l) la h2 h1
  refine⟨_,(Wt.num m.at (lm.rat h3)).ET (Nat.zero_le _),?_⟩
  have:=qn (a:=n) (c:=a) (Int.ne_of_gt l.pos) (Int.ne_of_gt la.pos)
  refine(Int.mul_comm a n).symm▸(Int.mul_comm b d).symm▸?_;exact this
 ·exact⟨q,x.up,by simp[bx]⟩
 ·refine⟨_,.two m2.at ((Wt.num m1.at (l.rat (by lia))).ET (Nat.zero_le _) |>.ext m2.ext) ((x.ext m1.ext).ext m2.ext) (.times _ _),?_⟩
  show bx (n*q.1) (d*q.2) (q.1*n) (q.2*d)
  refine(Int.mul_comm n ..).symm▸(Int.mul_comm d ..).symm▸?_;rfl
theorem hX:(U "*":Str)≠U "num":=by decide +kernel
theorem oj:(U "+":Str)≠U "num":=by decide +kernel
theorem qo:(U "ite":Str)≠U "num":=by decide +kernel
theorem zx{B B':List Row}{n d s:Int}{i j nn mm dd:Nat}{r:Row}(m:cH B n d i r j B')(e:B[i]? =some r)(t:aF B nn dd s i)(l:dD mm s n d)(h1:1<=nn)(h2:1<=mm)(h3:mm+nn<=3000):aF B' (mm+nn) (dd+1) s j:=by
 refine fF t.row λr' e' hs hn=>?_
 replace e':=e▸e';cases e'
 refine⟨?_,λpt hp=>?_⟩
 ·rcases m with⟨hr,a,b,hd,m⟩|⟨hr,rfl,rfl,rfl,rfl⟩|⟨hr,_,dB,dP,m1,m2⟩
  ·refine dm (hn hr) λa' b' mn la=>?_
   replace mn:=hd▸mn;cases mn
   exact⟨_,m.at,hs,λζ=>⟨_,_,rfl,oh (s:=r.2.2.1) (hs▸l) la h2 h1⟩⟩
  ·exact⟨r,e,hs,hn.mono (by lia)⟩
  ·exact⟨_,m2.at,hs,λq=>absurd q hX⟩
 ·refine aP (t.worth pt hp) λq x=>?_
  refine aU (dZ m e hn hs l h1 h2 h3 x) λq' y ζ=>?_
  exact⟨q',y⟩
theorem BL{B B':List Row}{s:Int}{i j o nn dd:Nat}(m:Mk B (U "+",[(i:Int),(j:Int)],s,.inl 0) o B')(t:aF B nn dd s i)(u:aF B nn dd s j):aF B' nn (dd+1) s o:=
 ⟨⟨_,m.at,rfl,λq=>absurd q oj⟩,λpt hp=>let⟨_,x⟩:=t.worth pt hp;let⟨_,y⟩:=u.worth pt hp;⟨_,.two m.at (x.ext m.ext) (y.ext m.ext) (.plus _ _)⟩⟩
theorem BM{B:List Row}(e:Ext bC B)(pt:Pt):Wt B pt 0 3 (.inl pt.p):=.app (is:=[]) (s:=0) (e.get rfl) (x:=U "p") rfl (by simp[Pt.get]) trivial
theorem EV{B B':List Row}{s:Int}{i j o nn dd:Nat}(e0:Ext bC B)(m:Mk B (U "ite",[((3:Nat):Int),(i:Int),(j:Int)],s,.inl 0) o B')(t:aF B nn dd s i)(u:aF B nn dd s j):aF B' nn (dd+1) s o:=by
 refine⟨⟨_,m.at,rfl,λq=>absurd q qo⟩,λpt hp=>?_⟩
 refine aP (t.worth pt hp) λq1 x=>?_
 refine aP (u.worth pt hp) λq2 y=>?_
 refine⟨if pt.p then q1 else q2,.ite m.at (((BM e0 pt).ET (Nat.zero_le dd)).ext m.ext) ?_⟩
 cases pt.p
 ·exact y.ext m.ext
 ·exact x.ext m.ext
theorem BN{m:Nat}{s:Int}(h:m<2 ^ 3):dD 3 s (m:Int) 1:=⟨by decide,by simp,λζ=>rfl,by unfold Bt;simpa using h,Nat.one_lt_two_pow (by decide)⟩
theorem O_:wb 8=19683000:=by decide +kernel
theorem Iu{d:Nat}(h:d<=8):wb d+wb d<=134217728:=by
 have h1:wb d<=wb 8:=by unfold wb;exact Nat.mul_le_mul_left _ (Nat.pow_le_pow_right (by decide) h)
 replace h1:=O_▸h1
 lia
section
variable{A:Around}{h g:Heap}{R:Result->Heap->Prop}
theorem BO{a b c d:Int}{ta tb tc td:Tok}{p q:Addr}{n:Nat}(hA:Rm A 1)(G:Gd h)(hp:Tp h p [.int a ta,.int b tb])(hq:Tp h q [.int c tc,.int d td])(ba:Bt n a)(bb:Bt n b)(bc:Bt n c)(bd:Bt n d)(hn:n+n<=134217728)(k:∀r t u h',Step [] [] h [] h'->Tp h' r [.int (a*d+c*b) t,.int (b*d) u]->R (.ok (.ret (.ref r))) h'):Cd A (.call (.ref 771) ⟨[.ref p,.ref q],[]⟩) R h:=by
 refine aw (ps:=[U "one",U "other"]) (rest:=[]) (ns:=[U "one",U "other"]) (gs:=[]) (vs:=[some (.ref p),some (.ref q)]) (r:=0) (Gr.nil h) G hA (pF G) (pG G) rfl rfl rfl rfl rfl (by decide +kernel) λL g1 h1 env A1 hE bS hr O S F=>?_
 refine au ?_
 k_extra "T"
 refine cT ba bd hn λζ=>?_
 k_extra "T"
 refine cT bc bb hn λζ=>?_
 k_extra "T"
 refine cT bb bd hn λζ=>?_
 k_extra "T"
 exact ah (k _ _ _ _ ((Gr.nil h).done (by k_extra "s") (by k_extra "q")) (by k_extra "o"))
theorem tC{a b c d:Int}{ta tb tc td:Tok}{p q:Addr}{n:Nat}(hA:Rm A 1)(G:Gd h)(hp:Tp h p [.int a ta,.int b tb])(hq:Tp h q [.int c tc,.int d td])(ba:Bt n a)(bb:Bt n b)(bc:Bt n c)(bd:Bt n d)(hn:n+n<=134217728)(k:∀h',Step [] [] h [] h'->R (.ok (.ret (.bool (decide (a*d<c*b))))) h'):Cd A (.call (.ref 778) ⟨[.ref p,.ref q],[]⟩) R h:=by
 refine aw (ps:=[U "one",U "other"]) (rest:=[]) (ns:=[U "one",U "other"]) (gs:=[]) (vs:=[some (.ref p),some (.ref q)]) (r:=0) (Gr.nil h) G hA (sL G) (sM G) rfl rfl rfl rfl rfl (by decide +kernel) λL g1 h1 env A1 hE bS hr O S F=>?_
 refine au ?_
 k_extra "T"
 refine cT ba bd hn λζ=>?_
 k_extra "T"
 refine cT bc bb hn λζ=>?_
 k_extra "T"
 exact ah (k _ ((Gr.nil h).done (by k_extra "s") (by k_extra "q")))
theorem EW{a b c d:Int}{ta tb tc td:Tok}{p q:Addr}{n:Nat}(hA:Rm A 1)(G:Gd h)(hp:Tp h p [.int a ta,.int b tb])(hq:Tp h q [.int c tc,.int d td])(ba:Bt n a)(bb:Bt n b)(bc:Bt n c)(bd:Bt n d)(hn:n+n<=134217728)(k:∀h',Step [] [] h [] h'->R (.ok (.ret (.bool (a*d==c*b)))) h'):Cd A (.call (.ref 790) ⟨[.ref p,.ref q],[]⟩) R h:=by
 refine aw (ps:=[U "one",U "other"]) (rest:=[]) (ns:=[U "one",U "other"]) (gs:=[U "isinstance",U "bool"]) (vs:=[some (.ref p),some (.ref q)]) (r:=0) (Gr.nil h) G hA (sN G) (sP G) rfl rfl rfl rfl rfl (by decide +kernel) λL g1 h1 env A1 hE bS hr O S F=>?_
 refine au ?_
 k_extra "T"
 refine cT ba bd hn λζ=>?_
 k_extra "T"
 refine cT bc bb hn λζ=>?_
 k_extra "T"
 exact ah (k _ ((Gr.nil h).done (by k_extra "s") (by k_extra "q")))
end
noncomputable def dr(s:Str)(a b c d:Int):Bool:=if s=U "<" then decide (a*d<c*b) else if s=U ">" then decide (c*b<a*d) else if s=U "<=" then !decide (c*b<a*d) else !decide (a*d<c*b)
def zz(s:Str):Prop:=s=U "<="\/s=U "<"\/s=U ">="\/s=U ">"
section
variable{A:Around}{h g:Heap}{R:Result->Heap->Prop}
theorem zA{s:Str}{ts:Tok}{a b c d:Int}{ta tb tc td:Tok}{p q:Addr}{n:Nat}(hs:zz s)(hA:Rm A 2)(G:Gd h)(hp:Tp h p [.int a ta,.int b tb])(hq:Tp h q [.int c tc,.int d td])(ba:Bt n a)(bb:Bt n b)(bc:Bt n c)(bd:Bt n d)(hn:n+n<=134217728)(k:∀h',Step [] [] h [] h'->R (.ok (.ret (.bool (dr s a b c d)))) h'):Cd A (.call (.ref 819) ⟨[.str s ts,.ref p,.ref q],[]⟩) R h:=by
 refine aw (ps:=[U "sign",U "one",U "other"]) (rest:=[]) (ns:=[U "sign",U "one",U "other"]) (gs:=[U "_law_less"]) (vs:=[some (.str s ts),some (.ref p),some (.ref q)]) (r:=1) (Gr.nil h) G hA (nP G) (nQ G) rfl rfl rfl rfl rfl (by decide +kernel) λL g1 h1 env A1 hE bS hr O S F=>?_
 refine au ?_
 k_extra "T"
 refine HE (d:=.str s) (ds:=[.str (U "<"),.str (U ">")]) (hr.less (by decide)) (by k_extra "u") (.cons (as:=[]) (bs:=[]) (.str _ _) (.cons (as:=[]) (bs:=[]) (.str _ _) .nil)) (.str _ _) (by decide +kernel) (by rcases hs with rfl|rfl|rfl|rfl <;> decide +kernel) (by simp[PyData.depth]) ?_
 k_extra "T"
 have fin:∀g2 h2 m,Fx [] g2 L m [] h2->Sub h g2->R (.ok (.ret (.bool (dr s a b c d)))) h2:=λg2 h2 m F2 S2=>k _ ((Gr.nil h).done F2 S2)
 have l1:∀(Q:Value->Heap->Prop) g2 h2 m,Fx [] g2 L m [] h2->Sub h g2->(∀g3 h3,Fx [] g3 L m [] h3->Sub g2 g3->Q (.bool (decide (a*d<c*b))) h3)->Wp A1 (call (.ref 778) ([]++[.ref p,.ref q])) Q (λζ ζ=>False) h2:=λQ g2 h2 m F2 S2 kk=>by
  refine Wp.call (tC hr (by k_extra "u") (by k_extra "u") (by k_extra "u") ba bb bc bd hn λh3 st=>?_)
  obtain⟨g3,S3,F3⟩:=Fx.aJ F2 st
  exact kk g3 h3 F3 S3
 have l2:∀(Q:Value->Heap->Prop) g2 h2 m,Fx [] g2 L m [] h2->Sub h g2->(∀g3 h3,Fx [] g3 L m [] h3->Sub g2 g3->Q (.bool (decide (c*b<a*d))) h3)->Wp A1 (call (.ref 778) ([]++[.ref q,.ref p])) Q (λζ ζ=>False) h2:=λQ g2 h2 m F2 S2 kk=>by
  refine Wp.call (tC hr (by k_extra "u") (by k_extra "u") (by k_extra "u") bc bd ba bb hn λh3 st=>?_)
  obtain⟨g3,S3,F3⟩:=Fx.aJ F2 st
  exact kk g3 h3 F3 S3
 rcases hs with rfl|rfl|rfl|rfl
 ·refine bL (by decide +kernel) ?_
  k_extra "T"
  refine eN (by decide +kernel) ?_
  k_extra "T"
  refine l2 _ _ _ _ (by k_extra "s") (by k_extra "q") λg3 h3 F3 S3=>?_
  k_extra "T"
  exact ah (fin _ _ _ F3 (by k_extra "q"))
 ·refine eN (by decide +kernel) ?_
  k_extra "T"
  refine eN (by decide +kernel) ?_
  k_extra "T"
  refine l1 _ _ _ _ (by k_extra "s") (by k_extra "q") λg3 h3 F3 S3=>?_
  k_extra "T"
  exact ah (fin _ _ _ F3 (by k_extra "q"))
 ·refine bL (by decide +kernel) ?_
  k_extra "T"
  refine bL (by decide +kernel) ?_
  k_extra "T"
  refine l1 _ _ _ _ (by k_extra "s") (by k_extra "q") λg3 h3 F3 S3=>?_
  k_extra "T"
  exact ah (fin _ _ _ F3 (by k_extra "q"))
 ·refine eN (by decide +kernel) ?_
  k_extra "T"
  refine bL (by decide +kernel) ?_
  k_extra "T"
  refine l2 _ _ _ _ (by k_extra "s") (by k_extra "q") λg3 h3 F3 S3=>?_
  k_extra "T"
  exact ah (fin _ _ _ F3 (by k_extra "q"))
end
section
variable{A:Around}{E:Value->Heap->Prop}{h h' g:Heap}{env:Env}{L:Addr}{m:Str->Option Value}{ρ:List (Addr×Obj)}{l l' l₀ l₁:List Cell}
theorem c6{xs:List Value}{Q:Value->Heap->Prop}(F:Fx ρ g L m l h)(hY:xs.length<=1000)(k:∀a g' h',Sub g g'->Ls g' a xs->Fx ρ g' L m l h'->Q (.ref a) h'):Wp A (newList xs) Q E h:=
 .of λgg d kk o Q' E' hQ hE=>wpAny_newObj_type (by
  have F1:=F.push (nF xs 0) (p:=Lo xs) ⟨rfl,rfl,0,rfl⟩ Lo.nt
  obtain⟨g',S,k',F2⟩:=Fx.weak (l':=l) F1 (.cons _ (List.Sublist.refl _))
  obtain⟨ob,e,p⟩:=k' _ List.mem_cons_self F.own.fresh
  exact hQ _ _ _ (k _ g' _ S ⟨ob,e,p⟩ F2)) (by show xs.toArray.size<=sizeLine;refine List.size_toArray.symm▸?_;exact Nat.le_trans hY (by decide))
inductive Zx(ρ:List (Addr×Obj))(g:Heap)(L:Addr)(m:Str->Option Value)(l:List Cell)(h:Heap)(a:Addr)(xs:List Value):Prop
 |mk (g':Heap) (s:Sub g g') (e:Ls g' a xs) (F:Fx ρ g' L m l h)
theorem Fx.freeze{a:Addr}{xs:List Value}(F:Fx ρ g L m ((a,Lo xs)::l) h):Zx ρ g L m l h a xs:=by
 obtain⟨g',S,k',F2⟩:=Fx.weak (l':=l) F (.cons _ (List.Sublist.refl _))
 obtain⟨ob,e,p⟩:=k' _ List.mem_cons_self (List.nodup_cons.mp F.own.nd).1
 exact⟨g',S,⟨ob,e,p⟩,F2⟩
theorem Iv{a n:Int}{t u:Tok}{Q:Value->Heap->Prop}(hn:0<=n)(hY:(Builtin.Int.intBits a:Int)*n<=2 ^ 27)(k:∀t,Q (.int (a ^ n.toNat) t) h):Wp A (binaryOp .Pow (.int a t) (.int n u)) Q E h:=.of λg d kk o Q' E' hQ hE=>PyProof.Rows.pow_int hn hY (hQ _ _ _ (k _))
theorem zB{n:Int}{t:Tok}{Q:Value->Heap->Prop}(k:Q (.int n t) h):Wp A (call (.type "int") [.int n t]) Q E h:=.of λg d kk o Q' E' hQ hE=>PySem.call_int_int (hQ _ _ _ k)
theorem lN{value:Expr}{lower upper:Option Expr}{p pos:Pos}{Q:Value->Heap->Prop}(x:Wp A (eval value env) (λv h1=>Wp A (evalPart lower env) (λvl h2=>Wp A (evalPart upper env) (λvu h3=>
   ∃a xs lo hi,v= .ref a/\Ls h3 a xs/\xs.length<=10000/\IsPart vl lo/\IsPart vu hi/\Q (.ref (h3.objs.size+1)) ((h3.push {cls:=.type "slice",data:=.fields #[vl,vu,.none]}).push {cls:=.type "list",data:=.seq (slicePick xs.toArray lo hi none)})) E h2) E h1) E h)
  (ht:∀o r,letTemporaryGo value o r=pure ():=by intro _ _;rfl):Wp A (eval (.Subscript value (.Slice lower upper none p) pos) env) Q E h:=.of λgg d k o Q' E' hQ hE=>
 wpAny_Subscript_list_slice (x.go gg d k o _ _ (λv h1 k1 q=>Wp.go q gg d k1 o _ E' (λvl h2 k2 q=>Wp.go q gg d k2 o _ E' (λvu h3 k3 q=>by
  obtain⟨a,xs,lo,hi,rfl,⟨ol,el,pl⟩,hz,p1,p2,q⟩:=q
  exact⟨a,xs.toArray,lo,hi,rfl,pl.isList el,by refine List.size_toArray.symm▸?_;exact Nat.le_trans hz (by decide),p1,p2,hQ _ _ _ q⟩) hE) hE) hE) ht
theorem qp{v1 v2:Value}{ys:Array Value}{a:Addr}{P:Addr->Heap->Heap->Prop}(F:Fx ρ g L m l h)
  (k:∀b g' h',Sub g g'->Ls g' b ys.toList->Fx ρ g' L m l h'->P b g' h'):∃g',P (h.objs.size+1) g' ((h.push {cls:=.type "slice",data:=.fields #[v1,v2,.none]}).push {cls:=.type "list",data:=.seq ys}):=by
 obtain⟨g1,S1,ζ,F1⟩:=F.mO {cls:=.type "slice",data:=.fields #[v1,v2,.none]} rfl
 have F2:=F1.push {cls:=.type "list",data:=.seq ys} (p:=Lo ys.toList) ⟨rfl,rfl,0,by simp⟩ Lo.nt
 obtain⟨g',S,l',F3⟩:=F2.freeze
 replace l':=(Heap.size_push ..)▸l'
 exact⟨g',k _ g' _ (S1.trans S) l' F3⟩
theorem qr{value e:Expr}{p pos:Pos}{Q:Value->Heap->Prop}(x:Wp A (eval value env) (λv h1=>Wp A (eval e env) (λvl h2=>∃a xs i t g m l,v= .ref a/\vl= .int (i:Nat) t/\Fx ρ g L m l h2/\Ls h2 a xs/\xs.length<=10000/\
   ∀b g' h',Sub g g'->Ls g' b (xs.drop i)->Fx ρ g' L m l h'->Q (.ref b) h') E h1) E h)
  (ht:∀o r,letTemporaryGo value o r=pure ():=by intro _ _;rfl):Wp A (eval (.Subscript value (.Slice (some e) none none p) pos) env) Q E h:=by
 refine lN (x.mono (λv h1 q=>q.mono (λvl h2 q=>?_) λζ ζ q=>q) λζ ζ q=>q) ht
 obtain⟨a,xs,i,t,g,m,l,rfl,rfl,F,hl,hz,k⟩:=q
 refine Wp.pure ⟨a,xs,some (i:Int),none,rfl,hl,hz,.int _ _,.none,?_⟩
 refine(slicePick_from' ..).symm▸?_
 refine aP (qp (a:=0) (P:=λb ζ h'=>Q (.ref b) h') (v1:=.int (i:Nat) t) (v2:=.none) (ys:=(xs.drop i).toArray) F (λb g' h' S l' F'=>k b g' h' S (by simpa using l') F')) λζ q=>?_
 simpa using q
theorem vW{value e:Expr}{p pos:Pos}{Q:Value->Heap->Prop}(x:Wp A (eval value env) (λv h1=>Wp A (eval e env) (λvl h2=>∃a xs i t g m l,v= .ref a/\vl= .int (i:Nat) t/\Fx ρ g L m l h2/\Ls h2 a xs/\xs.length<=10000/\
   ∀b g' h',Sub g g'->Ls g' b (xs.take i)->Fx ρ g' L m l h'->Q (.ref b) h') E h1) E h)
  (ht:∀o r,letTemporaryGo value o r=pure ():=by intro _ _;rfl):Wp A (eval (.Subscript value (.Slice none (some e) none p) pos) env) Q E h:=by
 refine lN (x.mono (λv h1 q=>Wp.pure (q.mono (λvl h2 q=>?_) λζ ζ q=>q)) λζ ζ q=>q) ht
 obtain⟨a,xs,i,t,g,m,l,rfl,rfl,F,hl,hz,k⟩:=q
 refine⟨a,xs,none,some (i:Int),rfl,hl,hz,.none,.int _ _,?_⟩
 refine(slicePick_upto' ..).symm▸?_
 refine aP (qp (a:=0) (P:=λb ζ h'=>Q (.ref b) h') (v1:=.none) (v2:=.int (i:Nat) t) (ys:=(xs.take i).toArray) F (λb g' h' S l' F'=>k b g' h' S (by simpa using l') F')) λζ q=>?_
 simpa using q
theorem tD{value e:Expr}{p pos:Pos}{Q:Value->Heap->Prop}(x:Wp A (eval value env) (λv h1=>Wp A (eval e env) (λvl h2=>∃a xs t g m l,v= .ref a/\vl= .int (-1) t/\Fx ρ g L m l h2/\Ls h2 a xs/\xs.length<=10000/\
   ∀b g' h',Sub g g'->Ls g' b xs.reverse->Fx ρ g' L m l h'->Q (.ref b) h') E h1) E h)
  (ht:∀o r,letTemporaryGo value o r=pure ():=by intro _ _;rfl):Wp A (eval (.Subscript value (.Slice none none (some e) p) pos) env) Q E h:=by
 refine .of ?_;intro gg d k o Q' E' hQ hE
 refine wpAny_Subscript_Slice_step (T:="list") list_getitem_lookup (x.go gg d k o _ _ (λv h1 k1 q=>wpAny_Slice (wpAny_pure (wpAny_pure (Wp.go q gg d k1 o _ _ (λvl h2 k2 q=>?_) hE)))) hE) ht
 obtain⟨a,xs,t,g,m,l,rfl,rfl,F,⟨ol,el,pl⟩,hz,kk⟩:=q
 have hl:=pl.isList el
 refine⟨(hl.push _).typeIs,wpAny_getItem_list_slice (s:=⟨h2.push {cls:=.type "slice",data:=.fields #[.none,.none,.int (-1) t]},gg,d,k2,o⟩) (hl.push _) (Heap.IsSliceOf.new ..) .none .none (.int (-1) t) (by simp) ?_ (by refine List.size_toArray.symm▸?_;exact Nat.le_trans hz (by decide))⟩
 refine(krv_pick ..).symm▸?_
 obtain⟨g1,S1,ζ,F1⟩:=F.mO {cls:=.type "slice",data:=.fields #[.none,.none,.int (-1) t]} rfl
 have F2:=F1.push {cls:=.type "list",data:=.seq xs.reverse.toArray} (p:=Lo xs.reverse) ⟨rfl,rfl,0,rfl⟩ Lo.nt
 obtain⟨g',S,l',F3⟩:=F2.freeze
 have:=hQ _ _ k2 (kk _ g' _ (S1.trans S) l' F3)
 simpa using this
theorem Iw{a:Addr}{vs:List Value}{ns:List Int}{Q:Value->Heap->Prop}(hh:A.handled=none)(F:Fx ρ g L m l h)(e:Ls h a vs)(hi:IntsAre vs ns)(k:∀t g' h',Sub g g'->Fx ρ g' L m l h'->Q (.int ns.sum t) h'):Wp A (call (.builtin "sum") [.ref a]) Q E h:=by
 refine .of ?_;intro gg d kk o Q' E' hQ hE
 obtain⟨ol,el,pl⟩:=e
 refine aP hi.allInts.items λxs hx=>?_
 have hl:=pl.isList el
 replace hl:=hx▸hl
 refine sum_intListG (s:=⟨h,gg,d,kk,o⟩) hh hl λh' tk t' hk=>?_
 obtain⟨g',S,F'⟩:=F.ext hk
 have:preSum (numAt xs) xs.size=ns.sum:=by
  have e1:numsOf vs=ns:=hi.numsOf
  have e2:numsOf (intItems xs).toList=_:=nums_intItems (xs:=xs)
  replace e2:=hx.symm▸e2
  refine(preSum_eq ..).symm▸?_
  rw[List.take_of_length_le (by simp)]
  refine e2▸?_
  refine(show vs.toArray.toList=vs from rfl).symm▸e1.symm▸?_
  rfl
 refine this.symm▸?_
 exact hQ _ _ _ (k t' g' h' S F')
theorem om{n:Nat}{t:Tok}{Q:Value->Heap->Prop}(F:Fx ρ g L m l h)(hn:n<=100000)(k:∀r g' h',Sub g g'->Src g' (.ref r) n (λi v=>∃t,v= .int (i:Int) t)->Fx ρ g' L m l h'->Q (.ref r) h'):Wp A (call (.type "range") [.int (n:Int) t]) Q E h:=.of λgg d kk o Q' E' hQ hE=>
 call_range_1 (s:=⟨h,gg,d,kk,o⟩) (by
  obtain⟨g',S,e,F'⟩:=F.mO {cls:=.type "range",data:=.fields #[.int 0 kk,.int (n:Int) t,.int 1 (kk+1)]} rfl
  exact hQ _ _ _ (k _ g' _ S (Src.range hn ⟨_,e,_,_,_,rfl⟩) F'))
end
section
variable{A:Around}{E:Value->Heap->Prop}{h h' g:Heap}{env:Env}{L:Addr}{m:Str->Option Value}{ρ:List (Addr×Obj)}{l l' l₀ l₁:List Cell}{ns gs:List Str}{vs:List (Option Value)}{cs:List (Str×Addr)}
theorem Ck.lf{c:Addr}{v:Value}(x:Ck g c v)(s:Sub g h):Ck h c v:=x.up s
theorem Bu{x:Str}{c:Addr}{pos:Pos}{v:Value}{Q:Value->Heap->Prop}(O:Ev env L ns gs)(C:Ec env cs)(hm:Kv cs x c)(hv:Ck h c v)(k:Q v h):Wp A (eval (.Name x pos) env) Q E h:=sV O.kind C hm.mem hv k
theorem Fx.tE{cl:List (Addr×Option Value)}(F:Fx ρ g L m (cl.map (λp=>(p.1,Ce p.2))++l) h):∃g',Sub g g'/\(∀p∈cl,Gt g' p.1 (Ce p.2))/\Fx ρ g' L m l h:=by
 obtain⟨g',S,k,F'⟩:=F.weak (List.sublist_append_right _ l)
 refine⟨g',S,λp hp=>?_,F'⟩
 have hm:(p.1,Ce p.2)∈cl.map (λp=>(p.1,Ce p.2)):=List.mem_map.mpr ⟨p,hp,rfl⟩
 refine k (p.1,Ce p.2) (List.mem_append_left _ hm) λq=>?_
 have nd:=F.own.nd
 replace nd:=aq▸nd;rw[List.nodup_append] at nd
 exact nd.2.2 _ (ax hm) _ q rfl
theorem lO(c:Str->NameKind->Bool)(names:List (Str×NameKind))(x:Str):(names.map λ(n,k)=>if c n k then(n,NameKind.cell) else(n,k)).lookup x=(names.lookup x).map λk=>if c x k then NameKind.cell else k:=by
 induction names with
 |nil=>rfl
 |cons p r ih=>
  show List.lookup x ((if c p.1 p.2 then(p.1,NameKind.cell) else(p.1,p.2))::r.map λ(n,k)=>if c n k then(n,NameKind.cell) else(n,k))=(match x==p.1 with|true=>some p.2|false=>r.lookup x).map λk=>if c x k then NameKind.cell else k
  by_cases e:x=p.1
  ·refine(beq_iff_eq.mpr e).symm▸?_
   by_cases q:c p.1 p.2=true
   ·refine(if_pos q).symm▸?_
    show(match x==p.1 with|true=>some _|false=>_)=some (if c x p.2 then _ else _)
    refine(beq_iff_eq.mpr e).symm▸e.symm▸(if_pos q).symm▸?_
    rfl
   ·refine(if_neg q).symm▸?_
    show(match x==p.1 with|true=>some _|false=>_)=some (if c x p.2 then _ else _)
    refine(beq_iff_eq.mpr e).symm▸e.symm▸(if_neg q).symm▸?_
    rfl
  ·have e':(x==p.1)=false:=beq_eq_false_iff_ne.mpr e
   refine e'.symm▸?_
   by_cases q:c p.1 p.2=true
   ·refine(if_pos q).symm▸?_
    show(match x==p.1 with|true=>some _|false=>_)=_
    refine e'.symm▸?_;exact ih
   ·refine(if_neg q).symm▸?_
    show(match x==p.1 with|true=>some _|false=>_)=_
    refine e'.symm▸?_;exact ih
theorem jv(scope:Scope)(cl:List (Str×Addr))(C:Addr)(env:Env)(x:Str):(compEnvC scope cl C env).kindOf x=(scope.names.lookup x).map λk=>if(k==NameKind.free&&env.scope.kind==.function&&env.kindOf x==some .cell) then NameKind.cell else k:=
 lO (λn k=>k==NameKind.free&&env.scope.kind==.function&&env.kindOf n==some .cell) scope.names x
noncomputable def BP(scope:Scope)(ns gs:List Str):Bool:=scope.kind==.function&&decide ns.Nodup&&(ns.all λy=>scope.names.lookup y==some .local&&!(y==("__debug__":Str)))&&gs.all λy=>scope.names.lookup y==some .globalImplicit&&!(y==("__debug__":Str))
theorem uJ{scope:Scope}{cl:List (Str×Addr)}{C:Addr}{AJ gs':List Str}(O:Ev env L ns gs)(e:BP scope AJ gs'=true):Ev (compEnvC scope cl C env) C AJ gs':=by
 unfold BP at e
 simp only[Bool.and_eq_true,List.all_eq_true,beq_iff_eq,decide_eq_true_eq,Bool.not_eq_true'] at e
 obtain⟨⟨⟨h1,h4⟩,h5⟩,h6⟩:=e
 refine⟨h1,rfl,O.AK,O.Gn,h4,λy hy=>⟨?_,(h5 y hy).2⟩,λy hy=>⟨?_,(h6 y hy).2⟩⟩
 ·refine(jv ..).symm▸((h5 y hy).1).symm▸?_;rfl
 ·refine(jv ..).symm▸((h6 y hy).1).symm▸?_;rfl
theorem fD{β:Type}{l:List (Str×β)}{a:Str}{b:β}(nd:(l.map (·.1)).Nodup)(hm:(a,b)∈l):l.lookup a=some b:=by
 induction l with
 |nil=>exact nomatch hm
 |cons p l ih=>
  have nd:=List.nodup_cons.mp (show(p.1::l.map (·.1)).Nodup from nd)
  show(match a==p.1 with|true=>some p.2|false=>l.lookup a)=_
  rcases List.mem_cons.mp hm with e|hm
  ·refine e▸?_
   rw[beq_self_eq_true]
  ·refine(beq_eq_false_iff_ne.mpr (show a≠p.1 from λq=>nd.1 (List.mem_map.mpr ⟨(a,b),hm,q⟩))).symm▸?_
   exact ih nd.2 hm
theorem uK{scope:Scope}{cl cs:List (Str×Addr)}{C:Addr}(O:Ev env L ns gs)(c:Ec env cs)(hs:∀p∈cl,p∈cs)(hn:(cl.map (·.1)).Nodup)(hf:cl.all (λp=>scope.names.lookup p.1==some .free)=true):Ec (compEnvC scope cl C env) cl:=by
 simp only[List.all_eq_true,beq_iff_eq] at hf
 refine⟨λp hp=>?_⟩
 refine u9 (c.kind p (hs p hp)) λk1 k2 k3=>?_
 refine⟨?_,k2,fD hn (by exact hp)⟩
 refine(jv ..).symm▸(hf p hp).symm▸O.kind.symm▸k1.symm▸?_;rfl
end
section
variable{A:Around}{E:Value->Heap->Prop}{h g:Heap}{ρ:List (Addr×Obj)}{l:List Cell}
theorem zC{f:Addr}{aG:FuncData}{body:List Stmt}{binds:List (Str×Value)}{ps rest ns gs:List Str}{as args:List Value}{vs:List (Option Value)}{R:Result->Heap->Prop}{oc:Value}{od:Option Addr}{oZ:Array (Option Value)}{r:Nat}{cc:Addr->List (Str×Addr)}{cl:Addr->List (Addr×Option Value)}(x:Gr ρ g h l)(G:Gd g)(hA:Rm A (r+1))
  (ho:g.get? f=some ⟨oc,od,.func aG,oZ⟩)(i8:g.CodeRec aG.code aG.qualname)(bK:aG.body= .stmts body)(bB:bindArgs aG ⟨args,[]⟩=pure binds)
  (hf:(binds.filter λp=>aG.scope.names.lookup p.1==some .local)=ps.zip as)(fY:ns=ps++rest)(mj:vs=as.map some++rest.map λζ=>none)(hlen:ps.length=as.length)
  (AL:∀n,cellsFrom n aG.scope.names []=cc n)(j4:∀n,(cc n).map (λp=>(p.2,bindC (λy=>aG.scope.names.lookup y) binds (λζ=>none) p.1))=cl n)
  (g_:(ij aG ns gs&&!aG.scope.isCoroutine&&!aG.scope.isGenerator&&aG.closure.isEmpty&&(binds.all λp=>aG.scope.names.lookup p.1==some .local||(aG.scope.names.lookup p.1==some .cell&&(List.lookup p.1 (cc 0)).isSome))&&((cc 0).all λp=>aG.scope.names.lookup p.1==some .cell&&!(p.1==("__debug__":Str)))&&decide ((cc 0).map (·.1)).Nodup)=true)
  (Bs:∀n,(cc n).map (·.1)=(cc 0).map (·.1))
  (k:∀L g' h' env A1,env=callEnvC aG L f->A1=A.deeper env->Rm A1 r->Ev env L ns gs->Ec env (cc (L+1))->Sub g g'->(∀p∈cl (L+1),Gt g' p.1 (Ce p.2))->Fx ρ g' L (mv ns vs) l h'->Wp A1 (execs body env) (qX R) (Lv A1 env R) h'):Cd A (.call (.ref f) ⟨args,[]⟩) R h:=
 pQ x G hA ho i8 bK bB hf fY mj hlen AL j4 g_ Bs λL g' h' env A1 e1 e2 hr O C S F=>by
  refine fF F.tE λg2 S2 kk F2=>?_
  exact k L g2 h' env A1 e1 e2 hr O C (S.trans S2) kk F2
end
noncomputable def qt(scope:Scope)(x:Str)(gs:List Str)(ks:List Str):Bool:=
 (scope.names.all (λy=>y.2 !=.cell&&(y.2 !=.local||scope.names.lookup y.1==some .local))&&scope.kind==.function&&scope.names.lookup x==some .local)&&BP scope [x] gs&&decide ks.Nodup&&ks.all λy=>scope.names.lookup y==some .free
section
variable{A:Around}{E:Value->Heap->Prop}{h h' g:Heap}{env:Env}{m:Str->Option Value}{l l' l₀ l₁:List Cell}{ns gs:List Str}{vs:List (Option Value)}{cs:List (Str×Addr)}
theorem tF{scope:Scope}{cl:List (Str×Addr)}{C L:Addr}{x:Str}{gs':List Str}(O:Ev env L ns gs)(c:Ec env cs)(hs:∀p∈cl,p∈cs)(e:qt scope x gs' (cl.map (·.1))=true):
  Ev (compEnvC scope cl C env) C [x] gs'/\Ec (compEnvC scope cl C env) cl:=by
 unfold qt at e
 replace e:=(Bool.and_eq_true ..)▸(Bool.and_eq_true ..)▸(Bool.and_eq_true ..)▸e
 obtain⟨⟨⟨h1,h2⟩,h3⟩,h4⟩:=e
 refine⟨uJ O h2,uK O c hs (of_decide_eq_true h3) ?_⟩
 replace h4:=List.all_map▸h4
 exact h4
theorem qu{T:Type}[DecidableEq T]{c:T}{v:Value}{kvs:List (T×Value)}(nd:(kvs.map (·.1)).Nodup)(hm:(c,v)∈kvs):valueAt kvs c=some v:=by
 induction kvs with
 |nil=>exact nomatch hm
 |cons p l ih=>
  have nd:=List.nodup_cons.mp (show(p.1::l.map (·.1)).Nodup from nd)
  show(match decide (p.1=c) with|true=>some p|false=>l.find? λkv=>kv.1=c).map Prod.snd=_
  rcases List.mem_cons.mp hm with r|r
  ·refine r▸?_;rw[decide_eq_true rfl];rfl
  ·rw[decide_eq_false λq=>nd.1 (List.mem_map.mpr ⟨(c,v),r,q.symm⟩)];exact ih nd.2 r
theorem uy{T:Type}[DecidableEq T]{knd:KeyKind PW w T}{value slice:Expr}{d:Addr}{key v:Value}{c:T}{kvs:List (T×Value)}{Q:Value->Heap->Prop}(e:Dd knd h d kvs)(hk:knd.is c key=true)(hm:Kv kvs c v)(k:Q v h)
  (hs:subscripted slice false (.ref d) key=operate [.ref d,key] (getItem (.ref d) key):=by k_extra "R"):Wp A (subscriptTail value slice (.ref d) key) Q E h:=
 sR e hk (qu (let⟨_,_,p⟩:=e;let⟨_,_,_,_,_,_,n⟩:=p;n) hm.mem) k hs
theorem Ec.nil{env:Env}:Ec env []:=⟨λp hp=>nomatch hp⟩
theorem ky{elt iter:Expr}{x:Str}{px:Pos}{ifs:List Expr}{scope:Scope}{cl:List (Str×Addr)}{pos:Pos}{n:Nat}{P:Nat->Value->Prop}{Q:Value->Heap->Prop}{gs':List Str}(ρ:List (Addr×Obj))(L:Addr)
  (hh:A.handled=none)(O:Ev env L ns gs)(Cc:Ec env cs)(hs:∀p∈cl,p∈cs)(dN:closureFor scope env=pure cl)(km:qt scope x gs' (cl.map (·.1))=true)
  (I:Nat->List Value->Heap->List Cell->Prop)(hy:∀i ys g l,I i ys g l->ys.length<=10000)
  (start:Wp A (eval iter env) (Yb ρ L n P I Q) E h)
  (turn:∀i v ys aX l h it p D C cB,i<n->P i v->I i ys aX l->Ev cB C [x] gs'->Ec cB cl->Fx ρ aX C (mv [x] [some v]) ((it,p)::(D,Lo ys)::l) h->Wp A (tests ifs cB) (λok h1=>
   if ok then Wp A (eval elt cB) (λy h2=>Ny ρ C (mv [x] [some v]) (it,p) (D,Lo ys) aX (I (i+1) (ys++[y])) h2) (λζ ζ=>False) h1
   else Ny ρ C (mv [x] [some v]) (it,p) (D,Lo ys) aX (I (i+1) ys) h1) (λζ ζ=>False) h)
  (mP:∀x,foldedSetIterable iter env x=pure x:=by intro _;rfl):Wp A (eval (.ListComp elt [⟨.Name x px,iter,ifs,0⟩] scope pos) env) Q E h:=by
 have e:=km
 unfold qt at e
 replace e:=(Bool.and_eq_true ..)▸(Bool.and_eq_true ..)▸(Bool.and_eq_true ..)▸e
 exact BG ρ L hh dN e.1.1.1 I hy start (λi v ys aX l h it p D C h1 h2 h3 F=>turn i v ys aX l h it p D C _ h1 h2 h3 (tF O Cc hs km).1 (tF O Cc hs km).2 F) mP
end
section
variable{A:Around}{E:Value->Heap->Prop}{h h' g:Heap}{env:Env}{L:Addr}{m:Str->Option Value}{ρ:List (Addr×Obj)}{l l' l₀ l₁:List Cell}
theorem pR{a:Addr}{Q:Value->Heap->Prop}(k:Q (.bool false) h):Wp A (compareOp .Is (.ref a) .none) Q E h:=
 yV (by refine(show(Value.ref a==Value.none)=false by rfl).symm▸?_;exact k)
theorem y3{Q:Value->Heap->Prop}(k:Q (.bool true) h):Wp A (compareOp .Is .none .none) Q E h:=
 yV (by refine(show(Value.none==Value.none)=true by rfl).symm▸?_;exact k)
end
section
variable{A:Around}{E:Value->Heap->Prop}{h g:Heap}{env:Env}{R:Result->Heap->Prop}{ρ:List (Addr×Obj)}{k:dg}{sorts:List Value}{sn:Addr}
def Sn(g:Heap)(sn:Addr):Prop:=∃t0 t1 t2,Ls g sn [.str (U "Bool") t0,.str (U "Int") t1,.str (U "Real") t2]
def fu(s:Int):Prop:=s=0\/s=1\/s=2
theorem Sn.at{g:Heap}{sn:Addr}(x:Sn g sn):∃xs,Ls g sn xs/\∀s,fu s->0<=s/\s<2 ^ 62/\∃y t,xs[s.toNat]? =some (.str y t)/\y.length<=10:=by
 refine JR x λt0 t1 t2 x=>?_
 refine⟨_,x,λs hs=>?_⟩
 rcases hs with rfl|rfl|rfl
 ·exact⟨by decide,by decide,_,_,rfl,by decide +kernel⟩
 ·exact⟨by decide,by decide,_,_,rfl,by decide +kernel⟩
 ·exact⟨by decide,by decide,_,_,rfl,by decide +kernel⟩
theorem iB{i:Nat}{s s':Int}{t ts tr:Tok}{where_:Str}{tw:Tok}(hA:Rm A 5)(gw:Ao A ρ)(x:Gr ρ g h [])(G:Gd g)(I:In w.params g k.self 638 k.al)(At:dS k)(qw:k.al.lookup (U "sort_names")=some (.ref sn))(Iy:Sn g sn)(hl:Ls g k.sorts sorts)(e:sorts[i]? =some (.int s' tr))(hi:i<=100000)(ip:s'≠s)(hs:fu s)(mP:fu s')(hw:where_.length<=100)
  (K:∀e T h',Step ρ [] h (X e T) h'->R (.error (.ref e)) h'):Cd A (.call (.ref 280) ⟨[.ref k.self,.int (i:Int) t,.int s ts,.str where_ tw],[]⟩) R h:=by
 refine dq (ps:=[U "self",U "t",U "s",U "where"]) (rest:=[]) (ns:=[U "self",U "t",U "s",U "where"]) (gs:=[U "SortFault"]) (vs:=[some (.ref k.self),some (.int (i:Int) t),some (.int s ts),some (.str where_ tw)]) (r:=4) x G hA (jJ G) (jK G) rfl rfl rfl rfl rfl (by decide +kernel) λL g1 h1 env A1 hE bS hr O S F=>?_
 obtain⟨a1,a2,a3,a4,a5,a6,a7⟩:=id At
 refine aU Iy.at λxs Vz hx=>?_
 obtain⟨BQ,EB,y,ty,hy,uL⟩:=hx s hs
 obtain⟨Iz,Sh,y',VA,VB,Si⟩:=hx s' mP
 have e':sorts[(i:Int).toNat]? =some (.int s' tr):=by simpa using e
 have hB:Ab A1 env L ρ:=Ab.of gw hE bS O
 have IA:Rm A1 3:=hr.less (by decide)
 have hd:=hr.hd
 refine au ?_
 k_extra "T"
 refine eN (by simpa using ip) ?_
 k_extra "T"
 refine jt (by k_extra "s") (by k_extra "u") (ze hB (by k_extra "s") λT' g' h' S' F'=>?_)
 exact K _ _ _ (x.done F' (by k_extra "q"))
end
noncomputable abbrev eT(cl:Addr)(n:Int)(tn:Tok)(s:Int)(ts:Tok):List (Str×Value):=[(U "cells",.ref cl),(U "at",.int n tn),(U "sum",.int s ts)]
theorem gx{k n:Nat}(h:n<2 ^ k):Bt k (n:Int):=by unfold Bt;simpa using h
theorem qx(cl:Addr)(n m:Int)(tn tm:Tok)(s:Int)(ts:Tok):stored (eT cl n tn s ts) (U "at") (.int m tm)=eT cl m tm s ts:=by k_extra "R"
section
variable{A:Around}{E:Value->Heap->Prop}{h g:Heap}{L:Addr}{m:Str->Option Value}{ρ:List (Addr×Obj)}{l:List Cell}{R:Result->Heap->Prop}
theorem vX{fd cl:Addr}{n v:Int}{tn tv t ts:Tok}{s:Int}{Q:Unit->Heap->Prop}(F:Fx ρ g L m ((fd,Do (strKind PW w) (eT cl n tn s ts))::l) h)(k:∀h',Fx ρ g L m ((fd,Do (strKind PW w) (eT cl v tv s ts))::l) h'->Q () h'):Wp A (setItem (.ref fd) (.str (U "at") t) (.int v tv)) Q E h:=
 HB (knd:=strKind PW w) (c:=U "at") F dA.hd (strKind_is PW w _ _) (by show 3<=10000;decide) λh' F'=>k h' (by replace F':=(qx ..)▸F';exact F')
theorem zD{fd cl:Addr}{n W:Nat}{tn ts tw:Tok}{s:Int}{vs:List Value}{cs:List Int}(x:Gr [] g h [(fd,Do (strKind PW w) (eT cl n tn s ts))])(G:Gd g)(hl:Ls g cl vs)(hi:IntsAre vs cs)(hz:vs.length<=100)(hn:n<=10000)(hW:0<W)(hA:Rm A 1)
  (K:∀(v:Nat) t cR h',v<W->Step [] [(fd,Do (strKind PW w) (eT cl n tn s ts))] h [(fd,Do (strKind PW w) (eT cl (n+1:Nat) cR s ts))] h'->R (.ok (.ret (.int (v:Int) t))) h'):Cd A (.call (.ref 743) ⟨[.ref fd,.int (W:Int) tw],[]⟩) R h:=by
 refine aw (ps:=[U "feed",U "wide"]) (rest:=[U "here"]) (ns:=[U "feed",U "wide",U "here"]) (gs:=[U "len"]) (vs:=[some (.ref fd),some (.int (W:Int) tw),none]) (r:=0) x G hA (kP G) (sH G) rfl rfl rfl rfl rfl (by decide +kernel) λL g1 h1 env A1 hE bS hr O S F=>?_
 have j4:(fd,Do (strKind PW w) (eT cl n tn s ts))∈[(fd,Do (strKind PW w) (eT cl n tn s ts))]:=List.mem_cons_self
 refine au ?_
 k_extra "T"
 have uM:((n:Int)+1)=((n+1:Nat):Int):=by lia
 refine uM.symm▸?_
 refine vX F λh2 F2=>?_
 k_extra "T"
 by_cases hle:n+1<=vs.length
 ·rw[if_pos (by simp;lia)]
  obtain⟨c,tc,e⟩:∃c tc,vs[n]? =some (.int c tc):=by
   have:n<vs.length:=by k_extra "z"
   refine dm (qk hi vs[n] (List.getElem_mem this)) λc t q ζ=>?_
   exact⟨c,t,by refine q▸?_;simp[this]⟩
  have e':vs[(((n+1:Nat):Int)-1).toNat]? =some (.int c tc):=by refine(show(((n+1:Nat):Int)-1).toNat=n by lia).symm▸?_;exact e
  k_extra "T"
  refine uj (by lia) λt=>?_
  have e1:=Int.fmod_nonneg_of_pos c (b:=(W:Int)) (by lia)
  have e2:=Int.fmod_lt_of_pos c (b:=(W:Int)) (by lia)
  refine(show c.fmod (W:Int)=((c.fmod (W:Int)).toNat:Int) from (Int.toNat_of_nonneg e1).symm).symm▸?_
  k_extra "T"
  refine ah (K _ _ _ _ (a9 e1 e2) (x.done (by k_extra "s") (by k_extra "q")))
 ·rw[if_neg (by simp;lia)]
  have hb:Bt 20 ((n+1:Nat):Int):=gx (Nat.lt_of_lt_of_le (show n+1<1048576 by k_extra "z") (by decide))
  k_extra "T"
  refine cT (n:=3) (m:=20) (gx (n:=7) (by decide)) hb (by decide) λζ=>?_
  k_extra "T"
  refine cT (n:=23) (m:=20) ((gx (n:=7) (by decide)).mul hb) hb (by decide) λζ=>?_
  k_extra "T"
  refine cT (n:=3) (m:=20) (gx (n:=3) (by decide)) hb (by decide) λζ=>?_
  k_extra "T"
  refine kH (n:=3) (by decide) (gx (n:=2) (by decide)) (by decide) λζ=>?_
  k_extra "T"
  refine uj (by lia) λt=>?_
  generalize Int.fdiv _ 2=c
  have e1:=Int.fmod_nonneg_of_pos c (b:=(W:Int)) (by lia)
  have e2:=Int.fmod_lt_of_pos c (b:=(W:Int)) (by lia)
  refine(show c.fmod (W:Int)=((c.fmod (W:Int)).toNat:Int) from (Int.toNat_of_nonneg e1).symm).symm▸?_
  k_extra "T"
  refine ah (K _ _ _ _ (a9 e1 e2) (x.done (by k_extra "s") (by k_extra "q")))
end
section
variable{A:Around}{E:Value->Heap->Prop}{h g:Heap}{L:Addr}{m:Str->Option Value}{ρ:List (Addr×Obj)}{l l₀:List Cell}{R:Result->Heap->Prop}
noncomputable abbrev Fd(fd cl:Addr)(n:Nat)(tn:Tok)(s:Int)(ts:Tok):Cell:=(fd,Do (strKind PW w) (eT cl (n:Int) tn s ts))
structure Cs(g:Heap)(cl:Addr):Prop where
 ls:∃vs cs,Ls g cl vs/\IntsAre vs cs/\vs.length<=100
theorem Cs.lf{g h:Heap}{cl:Addr}(x:Cs g cl)(s:Sub g h):Cs h cl:=by
 refine fv x.ls λvs cs a b c=>?_
 exact⟨vs,cs,a.up s,b,c⟩
theorem Cs.yT{g h:Heap}{cl:Addr}(s:Sub g h)(x:Cs g cl):Cs h cl:=by
 refine fv x.ls λvs cs a b c=>?_
 exact⟨vs,cs,a.up s,b,c⟩
theorem EX{fd cl:Addr}{n W:Nat}{tn ts tw:Tok}{s:Int}{Q:Value->Heap->Prop}(hA:Rm A 1)(F:Fx ρ g L m (l₀++[Fd fd cl n tn s ts]) h)(G:Gd g)(C:Cs g cl)(hn:n<=10000)(hW:0<W)
  (k:∀(v:Nat) t cR g' h',v<W->Sub g g'->Fx ρ g' L m (l₀++[Fd fd cl (n+1) cR s ts]) h'->Q (.int (v:Int) t) h'):Wp A (call (.ref 743) [.ref fd,.int (W:Int) tw]) Q E h:=by
 refine fv C.ls λvs cs hl hi hz=>?_
 obtain⟨G2,x2,S2⟩:=Fx.ux F
 refine Wp.call (zD x2 (G.up S2) (hl.up S2) hi hz hn hW hA λv t cR h' hv st=>?_)
 obtain⟨g',S',F'⟩:=Fx.ll F st
 exact k v t cR g' h' hv S' F'
theorem iV{fd cl:Addr}{n W:Nat}{tn ts tw:Tok}{s:Int}{Q:Value->Heap->Prop}(hA:Rm A 1)(F:Fx ρ g L m [Fd fd cl n tn s ts] h)(G:Gd g)(C:Cs g cl)(hn:n<=10000)(hW:0<W)
  (k:∀(v:Nat) t cR g' h',v<W->Sub g g'->Fx ρ g' L m [Fd fd cl (n+1) cR s ts] h'->Q (.int (v:Int) t) h'):Wp A (call (.ref 743) ([]++[.ref fd,.int (W:Int) tw])) Q E h:=EX (l₀:=[]) hA F G C hn hW k
end
section
variable{A:Around}{h g:Heap}{R:Result->Heap->Prop}
theorem zE{fd cl:Addr}{n:Nat}{tn ts tk:Tok}{s kd:Int}(x:Gr [] g h [Fd fd cl n tn s ts])(G:Gd g)(C:Cs g cl)(hn:n<=9000)(hA:Rm A 2)
  (K:∀(p:Addr) (a b:Int) (ta tb:Tok) n' cR h',Bt 70 a->1<=b->b<=4->(kd=1->b=1)->n'<=n+5->Step [] [Fd fd cl n tn s ts] h [Fd fd cl n' cR s ts] h'->Tp h' p [.int a ta,.int b tb]->R (.ok (.ret (.ref p))) h'):Cd A (.call (.ref 750) ⟨[.ref fd,.int kd tk],[]⟩) R h:=by
 refine aw (ps:=[U "feed",U "kind"]) (rest:=[U "top"]) (ns:=[U "feed",U "kind",U "top"]) (gs:=[U "_law_draw",U "INT"]) (vs:=[some (.ref fd),some (.int kd tk),none]) (r:=1) x G hA (nK G) (nM G) rfl rfl rfl rfl rfl (by decide +kernel) λL g1 h1 env A1 hE bS hr O S F=>?_
 refine au ?_
 k_extra "T"
 refine iV (W:=9) hr (by k_extra "s") (by k_extra "u") (C.yT (by k_extra "q")) (by k_extra "z") (by decide) λv1 t1 Ds g2 h2 Pc S2 F2=>?_
 try dsimp only
 k_extra "T"
 refine iV (W:=9) hr (by k_extra "s") (by k_extra "u") (C.yT (by k_extra "q")) (by k_extra "z") (by decide) λv2 t2 Pd g3 h3 Pf S3 F3=>?_
 try dsimp only
 k_extra "T"
 refine Iv (by decide) (by decide +kernel) λt=>?_
 k_extra "T"
 refine iV (W:=1000) hr (by k_extra "s") (by k_extra "u") (C.yT (by k_extra "q")) (by k_extra "z") (by decide) λv3 t3 Sj g4 h4 Ph S4 F4=>?_
 try dsimp only
 k_extra "T"
 refine iV (W:=6) hr (by k_extra "s") (by k_extra "u") (C.yT (by k_extra "q")) (by k_extra "z") (by decide) λv4 t4 EY g5 h5 VC S5 F5=>?_
 try dsimp only
 have pick:∀(a b c d e f:Tok),∃(z:Nat) (tz:Tok),z<3/\[Value.int 0 a,.int 0 b,.int 0 c,.int 1 d,.int 1 e,.int 2 f][((v4:Nat):Int).toNat]? =some (.int (z:Int) tz):=λa b c d e f=>by
  refine(Int.toNat_natCast ..).symm▸?_
  rcases v4 with _|_|_|_|_|_|v <;> first|exact⟨0,_,by decide,rfl⟩|exact⟨1,_,by decide,rfl⟩|exact⟨2,_,by decide,rfl⟩|lia
 obtain⟨z,tz,hz,e1⟩:=pick _ _ _ _ _ _
 k_extra "T"
 have IB:∀(a b c:Tok),∃(y:Int) (ty:Tok),Bt 70 y/\[Value.int (v1:Int) a,.int (-(v2:Int)) b,.int (10 ^ (20:Int).toNat+(v3:Int)) c][((z:Nat):Int).toNat]? =some (.int y ty):=λa b c=>by
  refine(Int.toNat_natCast ..).symm▸?_
  have b1:Bt 70 (v1:Int):=gx (Nat.lt_of_lt_of_le Pc (by decide))
  have b2:Bt 70 (-(v2:Int)):=(gx (Nat.lt_of_lt_of_le Pf (by decide))).neg
  have b3:Bt 70 (10 ^ (20:Int).toNat+(v3:Int)):=by
   have e:(10 ^ (20:Int).toNat+(v3:Int))=((10 ^ 20+v3:Nat):Int):=by simp
   refine e.symm▸?_
   exact gx (Nat.lt_of_lt_of_le (Nat.add_lt_add_left Ph _) (by decide))
  rcases z with _|_|_|z
  ·exact⟨_,_,b1,rfl⟩
  ·exact⟨_,_,b2,rfl⟩
  ·exact⟨_,_,b3,rfl⟩
  ·lia
 obtain⟨y,ty,hy,e2⟩:=IB _ _ _
 k_extra "T"
 by_cases hk:kd=1
 ·refine eN (by simpa using hk) ?_
  k_extra "T"
  have st:=x.done (by k_extra "s") (by k_extra "q")
  k_extra "T"
  exact ah (K _ y 1 _ _ _ _ _ hy (by decide) (by decide) (λζ=>rfl) (by k_extra "z") st (by k_extra "o"))
 ·refine bL (by simpa using hk) ?_
  k_extra "T"
  refine iV (W:=4) hr (by k_extra "s") (by k_extra "u") (C.yT (by k_extra "q")) (by k_extra "z") (by decide) λv5 t5 Pj g6 h6 VD S6 F6=>?_
  try dsimp only
  k_extra "T"
  have st:=x.done (by k_extra "s") (by k_extra "q")
  k_extra "T"
  exact ah (K _ y (1+(v5:Int)) _ _ _ _ _ hy (by lia) (by lia) (λq=>absurd q hk) (by k_extra "z") st (by k_extra "o"))
end
structure WA where
 k:dg
 wd:Addr
 nd:Addr
 sn:Addr
 fn:Addr
 l0:Addr
 l1:Addr
 l2:Addr
noncomputable def WA.nl(W:WA)(kd:Int):Addr:=if kd=0 then W.l0 else if kd=1 then W.l1 else W.l2
noncomputable def nj(kd:Int):Nat:=if kd=0 then 3 else if kd=1 then 5 else 7
def Nm(g:Heap)(l:Addr)(i:Nat):Prop:=∃t u,Ls g l [.int (i:Int) t,.int ((i+1:Nat):Int) u]
theorem Nm.up{g h:Heap}{l:Addr}{i:Nat}(s:Sub g h)(x:Nm g l i):Nm h l i:=by
 refine nE x λt u a=>?_
 clear x
 exact⟨t,u,a.up s⟩
structure Wo(W:WA)(g:Heap):Prop where
 gd:Gd g
 inst:In w.params g W.k.self 638 W.k.al
 fW:Dd (strKind PW w) g W.wd [(U "bank",.ref W.k.self),(U "names",.ref W.nd)]
 names:Dd (intKind PW w) g W.nd [(0,.ref W.l0),(1,.ref W.l1),(2,.ref W.l2)]
 n0:Nm g W.l0 3
 n1:Nm g W.l1 5
 n2:Nm g W.l2 7
theorem Wo.up{W:WA}{g h:Heap}(s:Sub g h)(x:Wo W g):Wo W h:=
 ⟨x.gd.up s,x.inst.up s,x.fW.up s,x.names.up s,x.n0.up s,x.n1.up s,x.n2.up s⟩
noncomputable def aW(h:Heap)(v:Value):PV->Prop
 | .inl b=>v= .bool b
 | .inr q=>aD h v (.inr q)
theorem aW.up{g h:Heap}{v:Value}{u:PV}(s:cy g h)(x:aW g v u):aW h v u:=by
 cases u with
 |inl b=>exact x
 |inr q=>exact aD.up (show aD g v (.inr q) from x) s
inductive Po(pt:Pt)(pd:Addr)(h:Heap):Prop
 |mk (vi vj vu vv:Value) (d:Dd (strKind PW w) h pd [(U "p",.bool pt.p),(U "i",vi),(U "j",vj),(U "u",vu),(U "v",vv)]) (i:aD h vi (.inr pt.i)) (j:aD h vj (.inr pt.j)) (u:aD h vu (.inr pt.u)) (v:aD h vv (.inr pt.v)):Po pt pd h
theorem Po.up{pt:Pt}{pd:Addr}{g h:Heap}(s:Sub g h)(x:Po pt pd g):Po pt pd h:=by
 cases x with|mk a b c d p q r t u=>exact⟨a,b,c,d,p.up s,q.up s.aj,r.up s.aj,t.up s.aj,u.up s.aj⟩
inductive Fn(fn:Addr)(h:Heap):Prop
 |mk (a b c d e f:Tok) (l:Ls h fn [.str (U "p") a,.str (U "q") b,.str (U "i") c,.str (U "j") d,.str (U "u") e,.str (U "v") f]):Fn fn h
theorem Fn.up{fn:Addr}{g h:Heap}(s:Sub g h)(x:Fn fn g):Fn fn h:=by
 cases x with|mk a b c d e f p=>exact⟨a,b,c,d,e,f,p.up s⟩
structure Rd(W:WA)(B:List Row)(ops args ae:List Value)(h:Heap):Prop where
 wo:Wo W h
 rows:∃sorts,bX h B ops args sorts ae
 lo:Ls h W.k.ops ops
 la:Ls h W.k.args args
 ld:Ls h W.k.ae ae
 fn:Fn W.fn h
 len:B.length<=100000
section
variable{W:WA}{B:List Row}{ops args ae:List Value}{pt:Pt}{pd cl:Addr}{g h:Heap}{ρ:List (Addr×Obj)}{L:Addr}{m:Str->Option Value}{l:List Cell}
theorem Po.lf(x:Po pt pd g)(s:Sub g h):Po pt pd h:=x.up s
end
section
variable{A:Around}{E:Value->Heap->Prop}{h h' g:Heap}{L:Addr}{m:Str->Option Value}{ρ:List (Addr×Obj)}{l l' l₁:List Cell}
theorem Fx.iW(F:Fx ρ g L m (l++l₁) h):Gx [] g l h:=Fx.gr (l₀:=[]) (l₁:=l₁) F
theorem Fx.gy(F:Fx ρ g L m (l++l₁) h)(s:Step [] l h l' h'):Nx ρ g L m (l'++l₁) h':=Fx.ja (l₀:=[]) (l₁:=l₁) F s
theorem qy{b:Int}(h1:1<=b)(h4:b<=4):Bt 3 b:=by unfold Bt;lia
theorem Wo.nm{W:WA}(O:Wo W g){kd:Int}(hk:fu kd):Nm g (W.nl kd) (nj kd):=by
 rcases hk with rfl|rfl|rfl
 ·exact O.n0
 ·exact O.n1
 ·exact O.n2
theorem BR{W:WA}{value slice:Expr}{kd:Int}{t:Tok}{Q:Value->Heap->Prop}(d:Dd (intKind PW w) h W.nd [(0,.ref W.l0),(1,.ref W.l1),(2,.ref W.l2)])(hk:fu kd)(k:Q (.ref (W.nl kd)) h)
  (hs:subscripted slice false (.ref W.nd) (.int kd t)=operate [.ref W.nd,.int kd t] (getItem (.ref W.nd) (.int kd t)):=by k_extra "R"):Wp A (subscriptTail value slice (.ref W.nd) (.int kd t)) Q E h:=by
 refine sR (knd:=intKind PW w) (c:=kd) d (intKind_is _ _ _ _) (v:=.ref (W.nl kd)) ?_ k hs
 rcases hk with rfl|rfl|rfl <;> k_extra "R"
theorem zF{kd:Int}{v:Nat}(hk:kd=1\/kd=2)(hv:v<2):(kd=1/\(nj kd+v=5\/nj kd+v=6))\/(kd=2/\(nj kd+v=7\/nj kd+v=8)):=by
 rcases hk with rfl|rfl
 ·exact .inl ⟨rfl,by show 5+v=5\/5+v=6;lia⟩
 ·exact .inr ⟨rfl,by show 7+v=7\/7+v=8;lia⟩
end
section
variable{A:Around}{h g:Heap}{R:Result->Heap->Prop}{W:WA}{B:List Row}{ops args ae:List Value}
theorem tG{f:Nat}{z:Str}{t:Tok}(hA:Rm A 1)(O:Wo W h)(vY:W.k.al.lookup (U "fun_names")=some (.ref W.fn))(hf:Fn W.fn h)(e:dQ[f]? =some z)(K:∀t h',Step [] [] h [] h'->R (.ok (.ret (.str z t))) h'):Cd A (.call (.ref 189) ⟨[.ref W.k.self,.int (f:Int) t],[]⟩) R h:=by
 obtain⟨G,I,hw,Gy,n0,n1,n2⟩:=id O
 refine aw (ps:=[U "self",U "f"]) (rest:=[]) (ns:=[U "self",U "f"]) (gs:=[]) (vs:=[some (.ref W.k.self),some (.int (f:Int) t)]) (r:=0) (Gr.nil h) G hA (jW G) (jX G) rfl rfl rfl rfl rfl (by decide +kernel) λL g1 h1 env A1 hE bS hr Oe S F=>?_
 obtain⟨ta,tb,tc,td,te,tf,hl⟩:=hf
 obtain⟨tz,ez⟩:∃tz,[Value.str (U "p") ta,.str (U "q") tb,.str (U "i") tc,.str (U "j") td,.str (U "u") te,.str (U "v") tf][((f:Nat):Int).toNat]? =some (.str z tz):=by
  refine(Int.toNat_natCast ..).symm▸?_
  rcases f with _|_|_|_|_|_|f <;> first|(cases e;exact⟨_,rfl⟩)|(simp[dQ] at e)
 have VE:f<6:=(List.getElem?_eq_some_iff.mp e).1
 refine au ?_
 k_extra "T"
 exact ah (K _ _ ((Gr.nil h).done (by k_extra "s") (by k_extra "q")))
theorem BU{E:Value->Heap->Prop}{value slice:Expr}{pt:Pt}{pd:Addr}{z:Str}{t:Tok}{v:PV}{Q:Value->Heap->Prop}(P:Po pt pd h)(hz:pt.get z=some v)(k:∀vv,aW h vv v->Q vv h)
  (hs:subscripted slice false (.ref pd) (.str z t)=operate [.ref pd,.str z t] (getItem (.ref pd) (.str z t)):=by k_extra "R"):Wp A (subscriptTail value slice (.ref pd) (.str z t)) Q E h:=by
 obtain⟨vi,vj,vu,vv,hd,hi,hj,hu,hv⟩:=P
 obtain⟨vz,e,p⟩:∃vz,valueAt [(U "p",Value.bool pt.p),(U "i",vi),(U "j",vj),(U "u",vu),(U "v",vv)] z=some vz/\aW h vz v:=by
  unfold Pt.get at hz
  split at hz
  ·rename_i q;subst q;cases hz;exact⟨_,by k_extra "R",rfl⟩
  split at hz
  ·rename_i q;subst q;cases hz;exact⟨_,by k_extra "R",hi⟩
  split at hz
  ·rename_i q;subst q;cases hz;exact⟨_,by k_extra "R",hj⟩
  split at hz
  ·rename_i q;subst q;cases hz;exact⟨_,by k_extra "R",hu⟩
  split at hz
  ·rename_i q;subst q;cases hz;exact⟨_,by k_extra "R",hv⟩
  ·cases hz
 exact sR (knd:=strKind PW w) (c:=z) hd (strKind_is _ _ _ _) e (k _ p) hs
theorem ints3{vs:List Value}{a b c:Int}(x:IntsAre vs [a,b,c]):∃t u v,vs=[.int a t,.int b u,.int c v]:=by
 cases x with|cons _ t x=>cases x with|cons _ u x=>cases x with|cons _ v x=>cases x;exact⟨t,u,v,rfl⟩
theorem kz{vs:List Value}{is:List Int}(x:IntsAre vs is):∀(n:Nat) (v:Value),vs[n]? =some v->∃z t,is[n]? =some z/\v= .int z t:=by
 induction x with
 |nil=>intro n v e;simp at e
 |cons z t _ ih=>
  intro n v e
  rcases n with _|n
  ·cases e;exact⟨_,_,rfl,rfl⟩
  ·exact ih n v e
theorem jQ(h:Heap):∀bs:List Bool,ReadsAll h (bs.map .bool) (bs.map .bool) []
 |[]=>.nil
 |b::bs=>.cons (as:=[]) (.bool b) (jQ h bs)
theorem mQ:∀bs:List Bool,PyData.canLayAll0 (bs.map .bool)=true
 |[]=>rfl
 |b::bs=>by
  show(PyData.canLay0 (.bool b)&&PyData.canLayAll0 (bs.map .bool))=true
  refine(mQ bs).symm▸?_;rfl
theorem any_bools:∀bs:List Bool,(!((bs.map PyData.bool).any λy=>PyData.eqv y (.bool false)))=bs.all id
 |[]=>rfl
 |b::bs=>by
  have ih:=any_bools bs
  refine List.map_cons.symm▸List.any_cons.symm▸List.all_cons.symm▸(Bool.not_or ..).symm▸ih.symm▸?_
  cases b <;> rfl
theorem vZ{E:Value->Heap->Prop}{a:Addr}{bs:List Bool}{Q:Value->Heap->Prop}(hA:Rm A 0)(e:Ls h a (bs.map .bool))(k:Q (.bool (bs.all id)) h):Wp A (compareOp .NotIn (.bool false) (.ref a)) Q E h:=
 Ep hA e (jQ h bs) (.bool false) (mQ bs) rfl (by decide) (by refine(any_bools ..).symm▸?_;exact k)
end
noncomputable def numAt(B:List Row)(i:Nat):Option (Int×Int):=match B[i]? with
 |some r=>if r.1=U "num" then(match r.2.2.2 with| .inr q=>some q| .inl _=>none) else none
 |none=>none
theorem dF{B:List Row}{i:Nat}{r:Row}{q:Int×Int}(e:B[i]? =some r)(h:r.1=U "num")(hq:r.2.2.2= .inr q):numAt B i=some q:=by
 unfold numAt;refine e.symm▸?_;simp only[];rw[if_pos h,hq]
theorem eU{B:List Row}{i:Nat}{r:Row}(e:B[i]? =some r)(h:r.1≠U "num"):numAt B i=none:=by
 unfold numAt;refine e.symm▸?_;simp only[];rw[if_neg h]
theorem mR{B:List Row}{i:Nat}{q:Int×Int}(e:numAt B i=some q):∃r,B[i]? =some r/\r.1=U "num"/\r.2.2.2= .inr q:=by
 unfold numAt at e
 split at e
 ·rename_i r er
  split at e
  ·rename_i h
   split at e
   ·rename_i q' hq;cases e;exact⟨r,er,h,hq⟩
   ·cases e
  ·cases e
 ·cases e
theorem mS{B B':List Row}(x:Ext B B'){i:Nat}{r:Row}(e:B[i]? =some r):numAt B' i=numAt B i:=by
 unfold numAt;rw[e,x.get e]
noncomputable def ay(B:List Row)(is:List Nat):List (Int×Int):=is.filterMap (numAt B)
noncomputable def rests(B:List Row)(is:List Nat):List Nat:=is.filter λi=>(numAt B i).isNone
theorem gS(B:List Row)(is:List Nat)(i:Nat):ay B (is++[i])=ay B is++(numAt B i).toList:=by
 unfold ay;refine List.filterMap_append.symm▸?_;cases h:numAt B i <;> simp[h]
theorem lP(B:List Row)(is:List Nat)(i:Nat):rests B (is++[i])=rests B is++(if(numAt B i).isNone then[i] else[]):=by
 unfold rests;refine(List.filter_append ..).symm▸?_;cases h:numAt B i <;> simp[h]
theorem zG(B:List Row)(is:List Nat):ay B is.reverse=(ay B is).reverse:=List.filterMap_reverse
theorem gU(B:List Row)(is:List Nat):rests B is.reverse=(rests B is).reverse:=List.filter_reverse
theorem iX{B B':List Row}(x:Ext B B'){is:List Nat}(h:∀i∈is,∃r,B[i]? =some r):ay B' is=ay B is:=by
 induction is with
 |nil=>rfl
 |cons i is ih=>
  refine aP (h i List.mem_cons_self) λr e=>?_
  have ih:=ih λj hj=>h j (List.mem_cons_of_mem _ hj)
  unfold ay at*
  refine List.filterMap_cons.symm▸List.filterMap_cons.symm▸(mS x e).symm▸ih.symm▸?_
  rfl
theorem jw{B B':List Row}(x:Ext B B'){is:List Nat}(h:∀i∈is,∃r,B[i]? =some r):rests B' is=rests B is:=by
 unfold rests
 refine List.filter_congr λi hi=>?_
 refine aP (h i hi) λr e=>?_
 refine(mS x e).symm▸?_
 rfl
noncomputable def oo(f q:Int×Int):Int×Int:=(mu f.1 f.2 q.1 q.2,jo f.1 f.2 q.1 q.2)
noncomputable def prodF(qs:List (Int×Int)):Int×Int:=qs.foldl oo (1,1)
noncomputable def jx(f q:Int×Int):Int×Int:=(f.1*q.1,f.2*q.2)
noncomputable def bD(qs:List (Int×Int)):Int×Int:=qs.foldl jx (1,1)
theorem tH(qs:List (Int×Int))(q:Int×Int):prodF (qs++[q])=oo (prodF qs) q:=by unfold prodF;refine List.foldl_append.symm▸?_;rfl
theorem mU(qs:List (Int×Int))(q:Int×Int):bD (qs++[q])=jx (bD qs) q:=by unfold bD;refine List.foldl_append.symm▸?_;rfl
theorem v9{nn:Nat}{s:Int}(hn:1<=nn)(qs:List (Int×Int))(m:Nat)(f:Int×Int)(h:1<=m)(l:dD m s f.1 f.2)(k:∀q∈qs,dD nn s q.1 q.2):dD (m+nn*qs.length) s (qs.foldl oo f).1 (qs.foldl oo f).2:=by
 induction qs generalizing m f with
 |nil=>exact l
 |cons q qs ih=>
  have:=ih (m+nn) (oo f q) (Nat.le_add_right_of_le h) (oh l (k q List.mem_cons_self) h hn) λp hp=>k p (List.mem_cons_of_mem _ hp)
  rwa [Nat.add_assoc,Nat.add_comm nn,<-Nat.mul_succ] at this
theorem BV(s:Int):dD 1 s 1 1:=⟨by decide,by decide,λζ=>rfl,c8 _ (by decide),c8 _ (by decide)⟩
theorem c_{nn:Nat}{s:Int}(hn:1<=nn){qs:List (Int×Int)}(k:∀q∈qs,dD nn s q.1 q.2):dD (1+nn*qs.length) s (prodF qs).1 (prodF qs).2:=v9 hn qs 1 (1,1) (by decide) (BV s) k
theorem iY{a b c d e f g h:Int}(x:bx a b c d)(y:bx e f g h):bx (a*e) (b*f) (c*g) (d*h):=by
 unfold bx at*
 calc a*e*(d*h)=(a*d)*(e*h):=by simp[Int.mul_assoc,Int.mul_left_comm,Int.mul_comm]
  _=(c*b)*(g*f):=by rw[x,y]
  _=c*g*(b*f):=by simp[Int.mul_assoc,Int.mul_left_comm,Int.mul_comm]
theorem same_refl(a b:Int):bx a b a b:=rfl
theorem lQ:∀(qs:List (Int×Int)) (f t:Int×Int),0<f.2->0<t.2->(∀q∈qs,0<q.2)->bx f.1 f.2 t.1 t.2->bx (qs.foldl oo f).1 (qs.foldl oo f).2 (qs.foldl jx t).1 (qs.foldl jx t).2/\0<(qs.foldl jx t).2
 |[],f,t,_,h,_,s=>⟨s,h⟩
 |q::qs,f,t,hf,ht,k,s=>by
  have hq:=k q List.mem_cons_self
  refine List.foldl_cons.symm▸List.foldl_cons.symm▸?_
  have h1:bx (oo f q).1 (oo f q).2 (f.1*q.1) (f.2*q.2):=qn (Int.ne_of_gt hf) (Int.ne_of_gt hq)
  refine lQ qs _ _ ?_ (Int.mul_pos ht hq) (λp hp=>k p (List.mem_cons_of_mem _ hp)) ?_
  ·show 0<jo f.1 f.2 q.1 q.2
   unfold jo
   split
   ·decide
   ·exact dK _ (Int.ne_of_gt (Int.mul_pos hf hq))
  ·exact cA (Int.ne_of_gt (Int.mul_pos hf hq)) h1 (iY s (same_refl _ _))
theorem dR{qs:List (Int×Int)}(k:∀q∈qs,0<q.2):bx (prodF qs).1 (prodF qs).2 (bD qs).1 (bD qs).2/\0<(bD qs).2:=lQ qs (1,1) (1,1) (by decide) (by decide) k rfl
theorem v_(qs:List (Int×Int)):∀t:Int×Int,qs.foldl jx t=(t.1*(bD qs).1,t.2*(bD qs).2):=by
 induction qs with
 |nil=>intro t;simp[bD]
 |cons q qs ih=>
  intro t
  unfold bD
  refine List.foldl_cons.symm▸List.foldl_cons.symm▸(ih ..).symm▸(ih (jx (1,1) q)).symm▸?_
  simp[jx,Int.mul_assoc]
theorem zH(qs:List (Int×Int)):bD qs.reverse=bD qs:=by
 induction qs with
 |nil=>rfl
 |cons q qs ih=>
  refine List.reverse_cons.symm▸(mU ..).symm▸ih.symm▸?_
  show _=qs.foldl jx (jx (1,1) q)
  refine(v_ ..).symm▸?_
  simp[jx,Int.mul_comm]
theorem wa{nn:Nat}{s:Int}(hn:1<=nn){qs:List (Int×Int)}(k:∀q∈qs,dD nn s q.1 q.2):prodF qs.reverse=prodF qs:=by
 have k':∀q∈qs.reverse,dD nn s q.1 q.2:=λq hq=>k q (List.mem_reverse.mp hq)
 have l1:=c_ hn k
 have l2:=c_ hn k'
 have s1:=dR λq hq=>(k q hq).pos
 have s2:=dR λq hq=>(k' q hq).pos
 replace s2:=(zH ..)▸s2
 refine i_ (ir l2.pos l1.pos l2.Dr l1.Dr (cA (Int.ne_of_gt s1.2) s2.1 (jq s1.1))) λe1 e2=>?_
 exact Prod.ext e1 e2
theorem Mk.again{B B' Dt:List Row}{r:Row}{j j':Nat}(h1:1<=B.length)(nd:B'.tail.Nodup)(m:Mk B r j B')(m':Mk B' r j' Dt):j'=j/\Dt=B':=by
 have hj:1<=j:=by
  rcases m with⟨_,_,h⟩|⟨_,_,rfl⟩
  ·exact h
  ·exact h1
 have ej:=m.at
 have et:∀i,1<=i->B'.tail[i-1]? =B'[i]?:=λi hi=>by refine List.getElem?_tail.symm▸?_;congr 1;exact Nat.sub_add_cancel hi
 rcases m' with⟨rfl,e',h'⟩|⟨hn,_,_⟩
 ·refine⟨?_,rfl⟩
  have a:=et j hj
  have b:=et j' h'
  replace a:=ej▸a
  replace b:=e'▸b
  have:=(List.getElem?_inj (List.getElem?_eq_some_iff.mp b).1 nd).mp (b.trans a.symm)
  lia
 ·exact absurd (List.mem_of_getElem? ((et j hj).trans ej)) hn
theorem cH.again{B B' Dt:List Row}{n d:Int}{i j j':Nat}{r:Row}(h1:1<=B.length)(nd:B'.tail.Nodup)(hr:r.1≠U "num")(m:cH B n d i r j B')(m':cH B' n d i r j' Dt):j'=j/\Dt=B':=by
 rcases m with⟨h,_⟩|⟨_,hn,hd,rfl,rfl⟩|⟨_,Gy,dB,dP,m1,m2⟩
 ·exact absurd h hr
 ·rcases m' with⟨h,_⟩|⟨_,_,_,rfl,rfl⟩|⟨_,h,_⟩
  ·exact absurd h hr
  ·exact⟨rfl,rfl⟩
  ·exact absurd ⟨hn,hd⟩ h
 ·rcases m' with⟨h,_⟩|⟨_,h2,h3,_,_⟩|⟨_,_,mA,j6,k1,k2⟩
  ·exact absurd h hr
  ·exact absurd ⟨h2,h3⟩ Gy
  ·have hl:=m1.ext.trans m2.ext
   have q1:1<=dB:=by
    rcases m1 with⟨_,_,h⟩|⟨_,_,rfl⟩
    ·exact h
    ·exact h1
   have Sk:Mk B' (U "num",[],r.2.2.1,.inr (n,d)) dB B':=.inl ⟨rfl,m2.ext.get m1.at,q1⟩
   have Pl:1<=B'.length:=by have:=(List.getElem?_eq_some_iff.mp m2.at).1;lia
   refine i_ (Mk.again Pl nd Sk k1) λe1 e2=>?_
   subst e1;subst e2
   have q2:1<=j:=by
    rcases m2 with⟨_,_,h⟩|⟨_,_,rfl⟩
    ·exact h
    ·rcases m1 with⟨rfl,_,_⟩|⟨_,rfl,_⟩
     ·exact h1
     ·simp
   have Sl:Mk j6 (U "*",[(mA:Int),(i:Int)],r.2.2.1,.inl 0) j j6:=.inl ⟨rfl,m2.at,q2⟩
   exact Mk.again Pl nd Sl k2
theorem Mk.pos{B B':List Row}{r:Row}{j:Nat}(h1:1<=B.length)(m:Mk B r j B'):1<=j:=by
 rcases m with⟨_,_,h⟩|⟨_,_,rfl⟩
 ·exact h
 ·exact h1
def cN(B:List Row)(is:List Nat)(s:Int)(j:Nat)(B':List Row):Prop:=
 (rests B is=[]/\Mk B (U "num",[],s,.inr (prodF (ay B is))) j B')\/
 ∃i r,rests B is=[i]/\B[i]? =some r/\r.1≠U "num"/\cH B (prodF (ay B is)).1 (prodF (ay B is)).2 i r j B'
section
variable{A:Around}{h g:Heap}{R:Result->Heap->Prop}{k:dg}{B:List Row}{ops args sorts ae:List Value}{xs:List (Row×Addr×Value)}{nt:Addr}{ρ:List (Addr×Obj)}
noncomputable abbrev bA(is:List Nat):List Int:=is.map λ(i:Nat)=>(i:Int)
theorem cw{vs:List Value}{is:List Nat}(x:IntsAre vs (bA is))(n:Nat)(v:Value)(e:vs[n]? =some v):∃i t,is[n]? =some i/\v= .int (i:Int) t:=by
 refine dm (kz x n v e) λz t ez ak=>?_
 obtain rfl:=ak
 replace ez:=List.getElem?_map▸ez
 cases q:is[n]? with
 |none=>rw[q] at ez;cases ez
 |some j=>rw[q] at ez;cases ez;exact⟨j,t,rfl,rfl⟩
theorem bG{vs:List Value}{is:List Nat}(x:IntsAre vs (bA is)):vs.length=is.length:=by have:=cp x;simpa using this
theorem ints_snoc{vs:List Value}{is:List Int}(x:IntsAre vs is)(i:Int)(t:Tok):IntsAre (vs++[.int i t]) (is++[i]):=by
 induction x with
 |nil=>exact .cons _ _ .nil
 |cons a b _ ih=>exact .cons _ _ ih
theorem jy{vs:List Value}{is:List Nat}(x:IntsAre vs (bA is))(i:Nat)(t:Tok):IntsAre (vs++[.int (i:Int) t]) (bA (is++[i])):=by
 have:=ints_snoc x i t
 simpa[bA] using this
theorem take_snoc{α:Type}{is:List α}{n:Nat}{i:α}(e:is[n]? =some i):is.take (n+1)=is.take n++[i]:=by
 refine List.take_add_one.symm▸e.symm▸?_;rfl
theorem lR{nn dd:Nat}{s:Int}{is:List Nat}(ht:∀i∈is,aF B nn dd s i):∀q∈ay B is,dD nn s q.1 q.2:=λq hq=>by
 refine aU (List.mem_filterMap.mp hq) λi hi e=>?_
 refine fF (mR e) λr er hr hd=>?_
 refine fF ((ht i hi).row) λr' kx hs hn=>?_
 replace kx:=er▸kx;cases kx
 refine dm (hn hr) λa b mn l=>?_
 replace mn:=hd▸mn;cases mn
 exact hs▸l
theorem gA(B:List Row)(is:List Nat):(ay B is).length<=is.length:=List.length_filterMap_le _ _
inductive Pm(k:dg)(B:List Row)(ops args sorts ae:List Value)(xs:List (Row×Addr×Value))(nt sa ra:Addr)(is:List Nat)(i:Nat)(g:Heap)(m:Str->Option Value)(l:List Cell):Prop
 |mk (p:Addr) (tn td:Tok) (rs:List Value) (ut uv:Option Value) (el:l=(ra,Lo rs)::Bl k ops args sorts ae xs) (em:m=mv [U "self",U "some",U "factor",U "rest",U "t",U "value"] [some (.ref nt),some (.ref sa),some (.ref p),some (.ref ra),ut,uv]) (hp:Tp g p [.int (prodF (ay B (is.take i))).1 tn,.int (prodF (ay B (is.take i))).2 td]) (j8:IntsAre rs (bA (rests B (is.take i)))):Pm k B ops args sorts ae xs nt sa ra is i g m l
theorem mV{sa:Addr}{vs:List Value}{is:List Nat}{nn dd:Nat}{s:Int}(x:Gr ρ g h (Bl k ops args sorts ae xs))(gw:Ao A ρ)(wc:eH ρ)(G:Gd g)(N:In w.params g nt 732 [(U "bank",.ref k.self)])(I:In w.params g k.self 638 k.al)(At:dS k)(b:Bk k B ops args sorts ae xs h)(hA:Rm A 6)(hz:B.length<=4900)
  (hl:Ls g sa vs)(hi:IntsAre vs (bA is))(h0:is≠[])(h4:is.length<=4)(hs:s=1\/s=2)(ht:∀i∈is,aF B nn dd s i)(uM:1<=nn)(hn:nn<=700)
  (K:∀(j:Nat) t B' av ai af ag aO h',Step ρ (Bl k ops args sorts ae xs) h (Bl k av ai af ag aO) h'->Bk k B' av ai af ag aO h'->cN B is s j B'->R (.ok (.ret (.int j t))) h')
  (Kb:1<(rests B is).length->∀e T h',Step ρ (Bl k ops args sorts ae xs) h (X e T++Bl k ops args sorts ae xs) h'->R (.error (.ref e)) h'):
  Cd A (.call (.ref 696) ⟨[.ref nt,.ref sa],[]⟩) R h:=by
 refine dq (ps:=[U "self",U "some"]) (rest:=[U "factor",U "rest",U "t",U "value"]) (ns:=[U "self",U "some",U "factor",U "rest",U "t",U "value"]) (gs:=[U "mul",U "SortFault",U "len"]) (vs:=[some (.ref nt),some (.ref sa),none,none,none,none]) (r:=5) x G hA (fM G) (fQ G) rfl rfl rfl rfl rfl (by decide +kernel) λL g1 h1 env A1 hE bS hr O S F=>?_
 have hb:Bk k B ops args sorts ae xs g:=b.up (x.aj wc)
 have hB:Ab A1 env L ρ:=Ab.of gw hE bS O
 have wZ:=bG hi
 refine au ?_
 repeat ((fail_if_success (with_reducible show Wp _ (newList _) _ _ _));k_extra "t")
 refine gJ (by k_extra "s") (by decide) λra h3 F3=>?_
 k_extra "T"
 refine gQ (n:=vs.length) (P:=λi v=>vs[i]? =some v) ρ L hr.hd (λi g m l=>Sub g1 g/\Pm k B ops args sorts ae xs nt sa ra is i g m l) ?_ ?_ ?_
 ·k_extra "T"
  exact⟨_,_,_,by k_extra "s",Src.list (by k_extra "u"),by k_extra "q",_,_,_,[],_,_,rfl,rfl,(show Tp _ _ [.int 1 _,.int 1 _] by k_extra "o"),.nil⟩
 ·rintro i v g2 m l h2 it q VF hv ⟨S2,⟨p,tn,td,rs,ut,uv,rfl,rfl,hp,j8⟩⟩ F2
  refine dm (cw hi i v hv) λj tj hj ak=>?_
  obtain rfl:=ak
  have Sm:=List.mem_of_getElem? hj
  have Sq:=ht j Sm
  refine fF Sq.row λr er tI uN=>?_
  have Pq:=bG j8
  have Ml:(rests B (is.take i)).length<=(is.take i).length:=List.length_filter_le _ _
  have Ss:=List.length_take_le i is
  have Pr:=hb.up S.aj |>.up S2.aj
  obtain⟨to,ts,va,vd,e1,e2,e3,e4,O9,rd⟩:=Pr.rows.row er
  k_extra "T"
  refine Wp.call (fq (hr.less (by decide)) (by k_extra "u") (by k_extra "u") (by k_extra "u") At (by k_extra "u") (by k_extra "u") (by k_extra "u") er (by k_extra "z") λv h2 st hv=>?_)
  obtain⟨g7,S7,F7⟩:=Fx.aJ (by k_extra "s") st
  rcases hv with⟨cZ,hv⟩|⟨cZ,rfl⟩
  ·refine dm (uN cZ) λa c q1 lo=>?_
   replace hv:=e4▸hv
   cases hv
   replace rd:=q1▸rd
   refine jH (id rd) λpv ta tc ak Mm=>?_
   obtain rfl:=ak
   try dsimp only
   k_extra "T"
   have lf:=c_ uM (lR (is:=is.take i) λi hi=>ht i (List.mem_of_mem_take hi))
   have nY:=gA B (is.take i)
   have AQ:1+nn*(ay B (is.take i)).length<=4000:=by
    have:nn*(ay B (is.take i)).length<=nn*4:=Nat.mul_le_mul_left _ (by k_extra "z")
    lia
   refine Wp.call (De (hr.less (by decide)) (by k_extra "u") (by k_extra "u") (by k_extra "u") (Int.ne_of_gt lf.pos) (Int.ne_of_gt lo.pos) (lf.ba.mono AQ) (lf.bb.mono AQ) (lo.ba.mono (by k_extra "z")) (lo.bb.mono (by k_extra "z")) λrr t1 t2 h2 st wY=>?_)
   obtain⟨g8,S8,F8⟩:=Fx.aJ (by k_extra "s") st
   have wY:=wY.up (F8.aj wc)
   try dsimp only
   k_extra "T"
   exact⟨_,_,_,by k_extra "s",by k_extra "q",by k_extra "q",_,_,_,rs,_,_,rfl,rfl,by rw[take_snoc hj,gS,dF er cZ q1,Option.toList_some,tH];exact wY,by rw[take_snoc hj,lP,dF er cZ q1];simpa using j8⟩
  ·try dsimp only
   k_extra "T"
   exact⟨_,_,_,by k_extra "s",by k_extra "q",by k_extra "q",_,_,_,_,_,_,rfl,rfl,by rw[take_snoc hj,gS,eU er cZ,Option.toList_none,List.append_nil];k_extra "u",by rw[take_snoc hj,lP,eU er cZ];exact jy j8 j tj⟩
 ·rintro g2 m l h2 g3 ⟨S2,⟨p,tn,td,rs,ut,uv,rfl,rfl,hp,j8⟩⟩ S3 F3
  rw[show is.take vs.length=is by refine wZ.symm▸?_;exact List.take_length] at hp j8
  obtain⟨g4,S4,VG,F4⟩:=Fx.freeze F3
  clear F3
  have Pq:=bG j8
  have Ml:(rests B is).length<=is.length:=List.length_filter_le _ _
  have zI:=((hb.up S.aj).up (S2.aj.trans S3.aj)).up S4.aj
  have lf:=c_ uM (lR ht)
  have nY:=gA B is
  have AQ:1+nn*(ay B is).length<=4000:=by
   have:nn*(ay B is).length<=nn*4:=Nat.mul_le_mul_left _ (by k_extra "z")
   lia
  k_extra "T"
  by_cases h1:1<(rests B is).length
  ·rw[if_pos (by simp;lia)]
   have IA:Rm A1 3:=hr.less (by decide)
   have hd:=hr.hd
   k_extra "T"
   refine jt (by k_extra "s") (by k_extra "u") (ze hB (by k_extra "s") λT' g' h' S' F'=>?_)
   exact Kb h1 _ _ _ (x.done F' (by k_extra "q"))
  refine bL (by simp;lia) ?_
  k_extra "T"
  by_cases h2:(rests B is).length=0
  ·rw[if_pos (by refine Pq.symm▸h2.symm▸?_;rfl)]
   have Su:rests B is=[]:=List.eq_nil_of_length_eq_zero h2
   obtain⟨i0,t0,IC,J5⟩:∃i0 t0,is[0]? =some i0/\vs[(0:Int).toNat]? =some (.int ((i0:Nat):Int) t0):=by
    have lS:0<vs.length:=by refine wZ.symm▸?_;exact List.length_pos_iff.mpr h0
    refine dm (cw hi 0 vs[0] (by simp[lS])) λi0 t0 e1 e2=>?_
    exact⟨i0,t0,e1,by simp[lS,e2]⟩
   refine fF ((ht i0 (List.mem_of_getElem? IC)).row) λr er tI uN=>?_
   obtain⟨to,ts,va,vd,e1,e2,e3,e4,O9,rd⟩:=zI.rows.row er
   have VH:i0<B.length:=(List.getElem?_eq_some_iff.mp er).1
   k_extra "T"
   refine Wp.call (iR (hr.less (by decide)) (by k_extra "u") (by k_extra "u") At (by k_extra "u") e3 (by k_extra "z") λh2 st=>?_)
   obtain⟨g5,S5,F5⟩:=Fx.aJ (by k_extra "s") st
   try dsimp only
   k_extra "T"
   obtain⟨G6,x6,S6⟩:=Fx.bF (by k_extra "s")
   refine tI.symm▸?_
   refine Wp.call (jM (n:=(prodF (ay B is)).1) (d:=(prodF (ay B is)).2) (B:=B) x6 (by k_extra "u") (by k_extra "u") At (by k_extra "u") (hr.less (by decide)) (by k_extra "z") ⟨_,_,_,rfl,by k_extra "u"⟩ hs lf.whole λj t B' av ai af ag aO h' st b' mk=>?_)
   obtain⟨g7,S7,F7⟩:=Fx.aT (by k_extra "s") st
   k_extra "T"
   exact ah (K j t B' av ai af ag aO h' (x.done F7 (by k_extra "q")) b' (.inl ⟨Su,mk⟩))
  ·rw[if_neg λq=>by
    have q:(rs.length:Int)=0:=by simpa using q
    lia]
   refine aP (List.length_eq_one_iff.mp (by lia):∃i1,rests B is=[i1]) λi1 Du=>?_
   replace j8:=Du▸j8
   obtain⟨t1,rfl⟩:∃t1,rs=[.int (i1:Int) t1]:=by
    cases j8 with|cons _ t1 y=>cases y;exact⟨t1,rfl⟩
   have hm:i1∈rests B is:=by refine Du.symm▸?_;exact List.mem_cons_self
   refine i_ (List.mem_filter.mp hm) λSv Mn=>?_
   refine fF ((ht i1 Sv).row) λr er tI uN=>?_
   have cZ:r.1≠U "num":=λq=>by
    refine dm (uN q) λa c q1 ζ=>?_
    replace Mn:=(dF er q q1)▸Mn;cases Mn
   k_extra "T"
   obtain⟨G6,x6,S6⟩:=Fx.bF (by k_extra "s")
   refine Wp.call (dX (i:=i1) (r:=r) (k:=k) (B:=B) (n:=(prodF (ay B is)).1) (d:=(prodF (ay B is)).2) x6 (by k_extra "u") (by k_extra "u") At (by k_extra "u") (hr.less (by decide)) (by k_extra "z") er (tI▸hs) (uN.ok (by k_extra "z")) (by k_extra "u") (Int.ne_of_gt lf.pos) (λq=>lf.whole (tI▸q)) (lf.ba.mono AQ) (lf.bb.mono AQ) λj t B' av ai af ag aO h' st b' mk=>?_)
   obtain⟨g7,S7,F7⟩:=Fx.aT (by k_extra "s") st
   k_extra "T"
   exact ah (K j t B' av ai af ag aO h' (x.done F7 (by k_extra "q")) b' (.inr ⟨i1,r,Du,er,cZ,mk⟩))
end
structure Cx where
 A:Around
 env:Env
 ρ:List (Addr×Obj)
 L:Addr
abbrev Fv(Γ:Cx)(g:Heap)(m:Str->Option Value)(l:List Cell)(h:Heap):Prop:=Fx Γ.ρ g Γ.L m l h
structure Co(Γ:Cx)(r:Nat)(ns gs:List Str)(cs:List (Str×Addr)):Prop where
 rm:Rm Γ.A r
 ev:Ev Γ.env Γ.L ns gs
 ec:Ec Γ.env cs
 nt:eH Γ.ρ
inductive Sp
 |v (x:Value)
 |i (n:Int)
 |s (x:Str)
 |p (u:PV)
 |nt (P:Params) (x:Addr)
 |l (xs:List Value)
 |f (qs:List (Int×Int))
inductive du(g:Heap):List Value->List (Int×Int)->Prop
 |nil:du g [] []
 |cons {v q vs qs}:aW g v (.inr q)->du g vs qs->du g (v::vs) (q::qs)
theorem du.up{g h:Heap}(t:cy g h){vs:List Value}{qs:List (Int×Int)}(x:du g vs qs):du h vs qs:=by
 induction x with
 |nil=>exact .nil
 |cons p _ ih=>exact .cons (p.up t) ih
theorem du.snoc{g:Heap}{v:Value}{q:Int×Int}(p:aW g v (.inr q)){vs:List Value}{qs:List (Int×Int)}(x:du g vs qs):du g (vs++[v]) (qs++[q]):=by
 induction x with
 |nil=>exact .cons p .nil
 |cons a _ ih=>exact .cons a ih
theorem du.len{g:Heap}{vs:List Value}{qs:List (Int×Int)}(x:du g vs qs):vs.length=qs.length:=by
 induction x with
 |nil=>rfl
 |cons _ _ ih=>simp[ih]
theorem du.at{g:Heap}{vs:List Value}{qs:List (Int×Int)}(x:du g vs qs):∀(n:Nat) (v:Value),vs[n]? =some v->∃q,qs[n]? =some q/\aW g v (.inr q):=by
 induction x with
 |nil=>intro n v e;simp at e
 |cons p _ ih=>
  intro n v e
  rcases n with _|n
  ·cases e;exact⟨_,rfl,p⟩
  ·exact ih n v e
noncomputable def Sp.is:Sp->Value->Heap->Prop
 | .v x,y,_=>y=x
 | .i n,y,_=>∃t,y= .int n t
 | .s x,y,_=>∃t,y= .str x t
 | .p u,y,g=>aW g y u
 | .nt P x,y,g=>∃a,y= .ref a/\In P g a 732 [(U "bank",.ref x)]
 | .l xs,y,g=>∃a,y= .ref a/\Ls g a xs
 | .f qs,y,g=>∃a xs,y= .ref a/\Ls g a xs/\du g xs qs
theorem Sp.up:∀(s:Sp) {v:Value} {g h:Heap},Sub g h->s.is v g->s.is v h
 | .v _,_,_,_,_,e=>e
 | .i _,_,_,_,_,e=>e
 | .s _,_,_,_,_,e=>e
 | .p _,_,_,_,t,e=>e.up t.aj
 | .nt _ _,_,_,_,t,⟨a,e,I⟩=>⟨a,e,I.up t⟩
 | .l _,_,_,_,t,⟨a,e,I⟩=>⟨a,e,I.up t⟩
 | .f _,_,_,_,t,⟨a,xs,e,I,q⟩=>⟨a,xs,e,I.up t,q.up t.aj⟩
noncomputable def Sp.flat:Sp->Bool
 | .nt _ _=>false
 | .l _=>false
 | .f _=>false
 |_=>true
theorem Sp.EZ:∀(s:Sp) {v:Value} {g h:Heap},s.flat=true->cy g h->s.is v g->s.is v h
 | .v _,_,_,_,_,_,e=>e
 | .i _,_,_,_,_,_,e=>e
 | .s _,_,_,_,_,_,e=>e
 | .p _,_,_,_,_,t,e=>e.up t
 | .nt _ _,_,_,_,z,_,_=>nomatch z
 | .l _,_,_,_,z,_,_=>nomatch z
 | .f _,_,_,_,z,_,_=>nomatch z
structure Px(Γ:Cx)(m:Str->Option Value)(l:List Cell)(g:Heap)(e:Expr)(s:Sp):Prop where
 of::
 go:∀(E:Value->Heap->Prop) (Q:Value->Heap->Prop) (g1 h:Heap),Sub g g1->Fv Γ g1 m l h->(∀v g' h',Sub g1 g'->Fv Γ g' m l h'->s.is v g'->Q v h')->Wp Γ.A (eval e Γ.env) Q E h
structure Pb(Γ:Cx)(m:Str->Option Value)(l:List Cell)(g:Heap)(e:Expr)(b:Bool):Prop where
 Mo::
 go:∀(E:Value->Heap->Prop) (Q:Bool->Heap->Prop) (g1 h:Heap),Sub g g1->Fv Γ g1 m l h->(∀g' h',Sub g1 g'->Fv Γ g' m l h'->Q b h')->Wp Γ.A (isTrue e Γ.env (eval e Γ.env)) Q E h
inductive Ar(g:Heap):List Sp->List Value->Prop
 |nil:Ar g [] []
 |cons {s v ss vs}:s.is v g->Ar g ss vs->Ar g (s::ss) (v::vs)
theorem Ar.up{g h:Heap}{ss:List Sp}{vs:List Value}(t:Sub g h)(x:Ar g ss vs):Ar h ss vs:=by
 induction x with
 |nil=>exact .nil
 |cons a _ ih=>exact .cons (Sp.up _ t a) ih
def Sp.all(s:Sp)(g:Heap)(P:Value->Prop):Prop:=match s with
 | .v x=>P x
 | .i n=>∀t,P (.int n t)
 | .s x=>∀t,P (.str x t)
 | .p u=>∀v,aW g v u->P v
 | .nt Q x=>∀a,In Q g a 732 [(U "bank",.ref x)]->P (.ref a)
 | .l xs=>∀a,Ls g a xs->P (.ref a)
 | .f qs=>∀a xs,Ls g a xs->du g xs qs->P (.ref a)
theorem Sp.ot{s:Sp}{g:Heap}{P:Value->Prop}{v:Value}(k:s.all g P)(q:s.is v g):P v:=by
 cases s with
 |v x=>cases q;exact k
 |i n=>obtain⟨t,rfl⟩:=q;exact k t
 |s x=>obtain⟨t,rfl⟩:=q;exact k t
 |p u=>exact k v q
 |nt Q x=>obtain⟨a,rfl,z⟩:=q;exact k a z
 |l xs=>obtain⟨a,rfl,z⟩:=q;exact k a z
 |f qs=>obtain⟨a,xs,rfl,z,y⟩:=q;exact k a xs z y
noncomputable def E2(ss:List Sp)(g:Heap)(P:List Value->Prop):Prop:=match ss with
 |[]=>P []
 |s::ss=>s.all g λv=>E2 ss g λvs=>P (v::vs)
theorem E2.of{g:Heap}{ss:List Sp}{vs:List Value}(a:Ar g ss vs):∀{P:List Value->Prop},E2 ss g P->P vs:=by
 induction a with
 |nil=>exact λk=>k
 |cons q _ ih=>exact λk=>ih (Sp.ot k q)
structure Pa(Γ:Cx)(m:Str->Option Value)(l:List Cell)(g:Heap)(es:List Expr)(ss:List Sp):Prop where
 of::
 go:∀(pos:Pos) (E:Value->Heap->Prop) (Q:List Value->Heap->Prop) (g1 h:Heap),Sub g g1->Fv Γ g1 m l h->(∀vs g' h',Sub g1 g'->Fv Γ g' m l h'->Ar g' ss vs->Q vs h')->Wp Γ.A (spliced (backTo pos (starEach es Γ.env))) Q E h
structure Qc(A:Around)(f:Addr)(ss:List Sp)(s:Sp)(g:Heap)(l:List Cell):Prop where
 of::
 go:∀(R:Result->Heap->Prop) (ρ:List (Addr×Obj)) (L:Addr) (m:Str->Option Value) (g1 h:Heap) (vs:List Value),eH ρ->Sub g g1->Fx ρ g1 L m l h->Ar g1 ss vs->(∀v g' h',Sub g1 g'->Fx ρ g' L m l h'->s.is v g'->R (.ok (.ret v)) h')->Cd A (.call (.ref f) ⟨vs,[]⟩) R h
theorem Qc.flat{A:Around}{f:Addr}{ss:List Sp}{s:Sp}{g:Heap}{l:List Cell}(fl:s.flat=true)(k:∀(R:Result->Heap->Prop) (ρ:List (Addr×Obj)) (L:Addr) (m:Str->Option Value) (g1 h:Heap) (vs:List Value),Sub g g1->Fx ρ g1 L m l h->Ar g1 ss vs->(∀v h',Step [] [] h [] h'->s.is v h'->R (.ok (.ret v)) h')->Cd A (.call (.ref f) ⟨vs,[]⟩) R h):Qc A f ss s g l:=
 ⟨λR ρ L m g1 h vs nt S F a kk=>k R ρ L m g1 h vs S F a λv h' st q=>by
  obtain⟨g2,S2,F2⟩:=Fx.aJ F st
  exact kk v g2 h' S2 F2 (Sp.EZ _ fl (F2.aj nt) q)⟩
structure Mt(x:Addr)(name:Str)(f:Addr)(g:Heap):Prop where
 of::
 go:∀(A:Around) (E:Value->Heap->Prop) (pl:Sem Bool) (Q:Value×List Value->Heap->Prop) (h:Heap),Sub g h->Q (.ref f,[.ref x]) h->Wp A (getMethod (.ref x) name pl) Q E h
structure Kc(A:Around)(op:CmpOp)(s t:Sp)(c:Bool)(g:Heap):Prop where
 of::
 go:∀(E Q:Value->Heap->Prop) (a b:Value) (h:Heap),Sub g h->s.is a h->t.is b h->Q (.bool c) h->Wp A (compareOp op a b) Q E h
def St(m:Str->Option Value)(x:Str)(v:Value)(m':Str->Option Value):Prop:=m'=λy=>if y=x then some v else m y
theorem St.hd{m m':Str->Option Value}{x:Str}{v:Value}(s:St m x v m'):m' x=some v:=by refine s.symm▸?_;simp
theorem St.tl{m m':Str->Option Value}{x y:Str}{v u:Value}(s:St m x v m')(n:decide (y=x)=false)(e:m y=some u):m' y=some u:=by
 refine s.symm▸?_
 show(if y=x then some v else m y)=some u
 refine(if_neg (of_decide_eq_false n)).symm▸?_;exact e
section
variable{Γ:Cx}{m m':Str->Option Value}{l:List Cell}{g g' h:Heap}{r:Nat}{ns gs:List Str}{cs:List (Str×Addr)}{e e':Expr}{s t:Sp}{pos:Pos}
theorem Px.val{v:Value}(k:∀(E Q:Value->Heap->Prop) (g1 h:Heap),Sub g g1->Fv Γ g1 m l h->Q v h->Wp Γ.A (eval e Γ.env) Q E h):Px Γ m l g e (.v v):=
 ⟨λE Q g1 h S F q=>k E Q g1 h S F (q v g1 h (Sub.refl _) F rfl)⟩
theorem ck(C:Co Γ r ns gs cs){x:Str}{v:Value}{E Q:Value->Heap->Prop}(hx:Gs ns x)(a:m x=some v)(F:Fv Γ g m l h)(q:Q v h):Wp Γ.A (eval (.Name x pos) Γ.env) Q E h:=
 .of λgg d kk o Q' E' hQ hE=>wpAny_Name (wpAny_loadName_local C.ev.kind (C.ev.lk _ hx.mem).1 (C.ev.loc▸F.ns) a (hQ _ _ _ q)) (C.ev.lk _ hx.mem).2
theorem Px.local(C:Co Γ r ns gs cs){x:Str}{v:Value}(hx:Gs ns x)(a:m x=some v):Px Γ m l g (.Name x pos) (.v v):=
 .val λE Q g1 h S F q=>ck C hx a F q
theorem ou(C:Co Γ r ns gs cs){x:Str}{c:Addr}{v:Value}{E Q:Value->Heap->Prop}(hx:Kv cs x c)(hv:Ck g c v)(F:Fv Γ g m l h)(q:Q v h):Wp Γ.A (eval (.Name x pos) Γ.env) Q E h:=sV C.ev.kind C.ec hx.mem (hv.up F.keep) q
theorem Px.cell(C:Co Γ r ns gs cs){x:Str}{c:Addr}{v:Value}(hx:Kv cs x c)(hv:Ck g c v):Px Γ m l g (.Name x pos) (.v v):=
 .val λE Q g1 h S F q=>ou C hx (hv.up S) F q
theorem ow(C:Co Γ r ns gs cs)(G:Gd g){x:Str}{v:Value}{E Q:Value->Heap->Prop}(hx:Gs gs x)(hv:Kv kR x v)(F:Fv Γ g m l h)(q:Q v h):Wp Γ.A (eval (.Name x pos) Γ.env) Q E h:=.of λgg d kk o Q' E' hQ hE=>by
 refine nE G λζ ζ G0=>?_
 clear G
 exact Name_function_global C.ev.kind (C.ev.gk _ hx.mem).1 (loadGlobal_global (C.ev.AK▸(G0.up F.keep).glob) (G0.gv hv.mem) (hQ _ _ _ q)) (C.ev.gk _ hx.mem).2
theorem Px.glob(C:Co Γ r ns gs cs)(G:Gd g){x:Str}{v:Value}(hx:Gs gs x)(hv:Kv kR x v):Px Γ m l g (.Name x pos) (.v v):=
 .val λE Q g1 h S F q=>ow C (G.up S) hx hv F q
theorem Px.int{n:Int}{k':Nat}:Px Γ m l g (.Constant (.int n) k' pos) (.i n):=⟨λE Q g1 h S F q=>dT λt=>q _ g1 h (Sub.refl _) F ⟨t,rfl⟩⟩
theorem Px.str{x:Str}{k':Nat}:Px Γ m l g (.Constant (.str x) k' pos) (.s x):=⟨λE Q g1 h S F q=>cJ λt=>q _ g1 h (Sub.refl _) F ⟨t,rfl⟩⟩
theorem Px.bool{b:Bool}{k':Nat}:Px Γ m l g (.Constant (.bool b) k' pos) (.v (.bool b)):=.val λE Q g1 h S F q=>yx q
theorem Px.mono(x:Px Γ m l g e s)(k:∀v g',Sub g g'->s.is v g'->t.is v g'):Px Γ m l g e t:=⟨λE Q g1 h S F q=>x.go _ Q g1 h S F λv g' h' S' F' a=>q v g' h' S' F' (k v g' (S.trans S') a)⟩
theorem Px.o3{n:Int}{t:Tok}(x:Px Γ m l g e (.v (.int n t))):Px Γ m l g e (.i n):=x.mono λv ζ ζ a=>⟨t,a⟩
theorem Px.Bv{x:Value}{u:PV}(a:Px Γ m l g e (.v x))(p:aW g x u):Px Γ m l g e (.p u):=a.mono λv g' S q=>by
 refine(show v=x from q).symm▸?_;exact p.up S.aj
theorem Px.qZ{a:Addr}{xs:List Value}(x:Px Γ m l g e (.v (.ref a)))(hl:Ls g a xs):Px Γ m l g e (.l xs):=x.mono λv g' S q=>⟨a,q,hl.up S⟩
theorem Px.lf(x:Px Γ m l g e s)(S:Sub g g'):Px Γ m l g' e s:=⟨λE Q g1 h S1 F q=>x.go _ Q g1 h (S.trans S1) F q⟩
theorem Pa.nil:Pa Γ m l g [] []:=⟨λpos E Q g1 h S F q=>aC (q _ g1 h (Sub.refl _) F .nil)⟩
theorem Pa.cons{es:List Expr}{ss:List Sp}(x:Px Γ m l g e s)(y:Pa Γ m l g es ss)(he:starEach (e::es) Γ.env=(false,eval e Γ.env)::starEach es Γ.env:=by rfl):Pa Γ m l g (e::es) (s::ss):=
 ⟨λpos E Q g1 h S F q=>az (x.go _ _ g1 h S F λv g2 h2 S2 F2 a=>y.go pos _ _ g2 h2 (S.trans S2) F2 λvs g3 h3 S3 F3 b=>q _ g3 h3 (S2.trans S3) F3 (.cons (Sp.up _ S3 a) b)) he⟩
theorem Qc.call{A:Around}{E:Value->Heap->Prop}{f:Addr}{ss:List Sp}{vs:List Value}{Q:Value->Heap->Prop}{g1:Heap}(c:Qc A f ss s g l){ρ:List (Addr×Obj)}(nt:eH ρ){L:Addr}(S:Sub g g1)(F:Fx ρ g1 L m l h)(a:Ar g1 ss vs)
  (k:∀v g' h',Sub g1 g'->Fx ρ g' L m l h'->s.is v g'->Q v h'):Wp A (call (.ref f) vs) Q E h:=
 Wp.call (c.go _ ρ L m g1 h vs nt S F a k)
theorem Px.fn(C:Co Γ r ns gs cs)(G:Gd g){x:Str}{f:Addr}{ob:Obj}{fd:FuncData}{es:List Expr}{ss:List Sp}{p:Pos}(hx:Gs gs x)(hv:Kv kR x (.ref f))(hK:(K w.params)[C6 f]? =some (f,ob))(hd:ob.data= .func fd)(a:Pa Γ m l g (e::es) (t::ss))(q:Qc Γ.A f (t::ss) s g l)
  (he:eval (.Call (.Name x p) (e::es) [] pos) Γ.env=(do callWith pos (<-eval (.Name x p) Γ.env) [] (backTo pos (starEach (e::es) Γ.env)) (backToKw pos (keywordEach [] Γ.env))):=by rfl)
  (hs:starEach (e::es) Γ.env=(false,eval e Γ.env)::starEach es Γ.env:=by rfl):Px Γ m l g (.Call (.Name x p) (e::es) [] pos) s:=
 ⟨λE Q g1 h S F k=>bw ((Px.glob C G hx hv).go _ _ g1 h S F λv g2 h2 S2 F2 e2=>by
  cases e2
  refine b_ hK hd (a.go pos _ _ g2 h2 (S.trans S2) F2 λvs g3 h3 S3 F3 b=>⟨(G.up ((S.trans S2).trans S3)).up F3.keep,?_⟩) hs
  exact q.call C.nt ((S.trans S2).trans S3) F3 b λv g4 h4 S4 F4 c=>k v g4 h4 ((S2.trans S3).trans S4) F4 c) he⟩
theorem Px.jm(C:Co Γ r ns gs cs)(G:Gd g){x:Addr}{name:Str}{f:Addr}{ob:Obj}{fd:FuncData}{e0:Expr}{es:List Expr}{ss:List Sp}{ap:Pos}{pl:Sem Bool}(x0:Px Γ m l g e0 (.v (.ref x)))(M:Mt x name f g)(hK:(K w.params)[C6 f]? =some (f,ob))(hd:ob.data= .func fd)(a:Pa Γ m l g (e::es) (t::ss))(q:Qc Γ.A f (.v (.ref x)::t::ss) s g l)
  (he:eval (.Call (.Attribute e0 name ap) (e::es) [] pos) Γ.env=(do
   let ov <-eval e0 Γ.env
   standAt ap.atName
   let(f,first) <-holding [ov] (getMethod ov name pl)
   callWith pos f first (backTo pos (starEach (e::es) Γ.env)) []):=by rfl)
  (hs:starEach (e::es) Γ.env=(false,eval e Γ.env)::starEach es Γ.env:=by rfl):Px Γ m l g (.Call (.Attribute e0 name ap) (e::es) [] pos) s:=
 ⟨λE Q g1 h S F k=>dH (x0.go _ _ g1 h S F λv g2 h2 S2 F2 e2=>by
  cases e2
  refine M.go _ _ _ _ _ ((S.trans S2).trans F2.keep) ?_
  refine b_ hK hd (a.go pos _ _ g2 h2 (S.trans S2) F2 λvs g3 h3 S3 F3 b=>⟨(G.up ((S.trans S2).trans S3)).up F3.keep,?_⟩) hs
  exact q.call C.nt ((S.trans S2).trans S3) F3 (.cons rfl b) λv g4 h4 S4 F4 c=>k v g4 h4 ((S2.trans S3).trans S4) F4 c) he⟩
theorem Px.two{Q:Value->Value->Heap->Prop}{E:Value->Heap->Prop}(x:Px Γ m l g e s)(y:Px Γ m l g e' t){g1:Heap}(S:Sub g g1)(F:Fv Γ g1 m l h)(k:∀a b g' h',Sub g1 g'->Fv Γ g' m l h'->s.is a g'->t.is b g'->Q a b h'):Wp Γ.A (eval e Γ.env) (λa h1=>Wp Γ.A (eval e' Γ.env) (λb h2=>Q a b h2) E h1) E h:=
 x.go _ _ g1 h S F λa g2 h2 S2 F2 p=>y.go _ _ g2 h2 (S.trans S2) F2 λb g3 h3 S3 F3 q=>k a b g3 h3 (S2.trans S3) F3 (Sp.up _ S3 p) q
theorem Px.cmp{op:CmpOp}{c:Bool}(x:Px Γ m l g e s)(y:Px Γ m l g e' t)(k:Kc Γ.A op s t c g)(hm:behindInMarks op e'=false:=by k_extra "R"):Px Γ m l g (.Compare e [op] [e'] pos) (.v (.bool c)):=
 ⟨λE Q g1 h S F q=>gH (Px.two x y S F λa b g2 h2 S2 F2 p1 p2=>k.go _ _ a b h2 ((S.trans S2).trans F2.keep) (Sp.up _ F2.keep p1) (Sp.up _ F2.keep p2) (q _ g2 h2 S2 F2 rfl)) hm⟩
theorem Pb.cmp{op:CmpOp}{c:Bool}(x:Px Γ m l g e s)(y:Px Γ m l g e' t)(k:Kc Γ.A op s t c g)(hm:behindInMarks op e'=false:=by k_extra "R"):Pb Γ m l g (.Compare e [op] [e'] pos) c:=
 ⟨λE Q g1 h S F q=>c5 (Px.two x y S F λa b g2 h2 S2 F2 p1 p2=>k.go _ _ a b h2 ((S.trans S2).trans F2.keep) (Sp.up _ F2.keep p1) (Sp.up _ F2.keep p2) (bu (q g2 h2 S2 F2))) hm⟩
theorem Pb.of{b:Bool}(x:Px Γ m l g e (.v (.bool b)))(he:isTrue e Γ.env (eval e Γ.env)=(do let v <-eval e Γ.env;standAt e.pos;holding [v] (truthy v)):=by rfl):Pb Γ m l g e b:=
 .Mo λE Q g1 h S F q=>eI (x.go _ _ g1 h S F λv g2 h2 S2 F2 e=>by cases e;exact bu (q g2 h2 S2 F2)) he
theorem Pb.not{b:Bool}(x:Pb Γ m l g e b):Pb Γ m l g (.UnaryOp .Not e pos) (!b):=.Mo λE Q g1 h S F q=>jb (x.go _ _ g1 h S F q)
structure Pn(Γ:Cx)(m:Str->Option Value)(l:List Cell)(g:Heap)(op:BoolOp)(es:List Expr)(b:Bool):Prop where
 Mo::
 go:∀(pos:Pos) (whole:Sem Value) (E:Value->Heap->Prop) (Q:Bool->Heap->Prop) (g1 h:Heap),Sub g g1->Fv Γ g1 m l h->(∀g' h',Sub g1 g'->Fv Γ g' m l h'->Q b h')->Wp Γ.A (isTrue (.BoolOp op es pos) Γ.env whole) Q E h
end
section
variable{Γ:Cx}{m m':Str->Option Value}{l:List Cell}{g g' h:Heap}{r:Nat}{ns gs:List Str}{cs:List (Str×Addr)}{e e':Expr}{s t:Sp}{pos:Pos}
theorem Pn.Ly:Pn Γ m l g .And [] true:=⟨λpos whole E Q g1 h S F q=>uh (q g1 h (Sub.refl _) F)⟩
theorem Pn.Lz:Pn Γ m l g .Or [] false:=⟨λpos whole E Q g1 h S F q=>nH (q g1 h (Sub.refl _) F)⟩
theorem Pn.and{es:List Expr}{b c:Bool}(x:Pb Γ m l g e b)(y:b=true->Pn Γ m l g .And es c):Pn Γ m l g .And (e::es) (b&&c):=
 ⟨λpos whole E Q g1 h S F q=>jc (x.go _ _ g1 h S F λg2 h2 S2 F2=>by
  cases b with
  |false=>exact q g2 h2 S2 F2
  |true=>exact(y rfl).go pos whole _ Q g2 h2 (S.trans S2) F2 λg3 h3 S3 F3=>q g3 h3 (S2.trans S3) F3)⟩
theorem Pn.or{es:List Expr}{b c:Bool}(x:Pb Γ m l g e b)(y:b=false->Pn Γ m l g .Or es c):Pn Γ m l g .Or (e::es) (b||c):=
 ⟨λpos whole E Q g1 h S F q=>kG (x.go _ _ g1 h S F λg2 h2 S2 F2=>by
  cases b with
  |true=>exact q g2 h2 S2 F2
  |false=>exact(y rfl).go pos whole _ Q g2 h2 (S.trans S2) F2 λg3 h3 S3 F3=>q g3 h3 (S2.trans S3) F3)⟩
theorem Pb.bool{op:BoolOp}{es:List Expr}{b:Bool}(x:Pn Γ m l g op es b):Pb Γ m l g (.BoolOp op es pos) b:=⟨λE Q g1 h S F q=>x.go pos _ _ Q g1 h S F q⟩
theorem Px.one{op:BoolOp}(x:Px Γ m l g e s):Px Γ m l g (.BoolOp op [e] pos) s:=⟨λE Q g1 h S F q=>yz (x.go _ Q g1 h S F q)⟩
theorem Px.and{es:List Expr}{b c:Bool}(x:Px Γ m l g e (.v (.bool b)))(y:b=true->Px Γ m l g (.BoolOp .And (e'::es) pos) (.v (.bool c))):Px Γ m l g (.BoolOp .And (e::e'::es) pos) (.v (.bool (b&&c))):=
 ⟨λE Q g1 h S F q=>yy (x.go _ _ g1 h S F λv g2 h2 S2 F2 ev=>by
  cases ev
  refine bu ?_
  cases b with
  |false=>exact q _ g2 h2 S2 F2 rfl
  |true=>exact(y rfl).go _ _ g2 h2 (S.trans S2) F2 λv g3 h3 S3 F3 ev=>q v g3 h3 (S2.trans S3) F3 ev)⟩
theorem Px.none_{k':Nat}:Px Γ m l g (.Constant .none k' pos) (.v .none):=.val λE Q g1 h S F q=>yw q
theorem Px.ite{a b:Expr}{c:Bool}(x:Pb Γ m l g e c)(y:Px Γ m l g (if c then a else b) s):Px Γ m l g (.IfExp e a b pos) s:=
 ⟨λE Q g1 h S F q=>kh (x.go _ _ g1 h S F λg2 h2 S2 F2=>by
  have z:=y.go E Q g2 h2 (S.trans S2) F2 λv g3 h3 S3 F3 ev=>q v g3 h3 (S2.trans S3) F3 ev
  cases c <;> exact z)⟩
theorem Px.bin{op:Operator}{a b c:Int}(k:∀(E Q:Value->Heap->Prop) (t u:Tok) (h:Heap),(∀t,Q (.int c t) h)->Wp Γ.A (binaryOp op (.int a t) (.int b u)) Q E h)(x:Px Γ m l g e (.i a))(y:Px Γ m l g e' (.i b)):Px Γ m l g (.BinOp e op e' pos) (.i c):=
 ⟨λE Q g1 h S F q=>gI (Px.two x y S F λu v g2 h2 S2 F2 p1 p2=>by
  refine aP p1 λt1 ak=>?_
  clear p1
  obtain rfl:=ak
  refine aP p2 λt2 ak=>?_
  clear p2
  obtain rfl:=ak
  exact k _ _ _ _ _ λt3=>q _ g2 h2 S2 F2 ⟨t3,rfl⟩)⟩
theorem Px.add{a b:Int}(x:Px Γ m l g e (.i a))(y:Px Γ m l g e' (.i b)):Px Γ m l g (.BinOp e .Add e' pos) (.i (a+b)):=Px.bin (λE Q t u h q=>ui q) x y
theorem Px.sub{a b:Int}(x:Px Γ m l g e (.i a))(y:Px Γ m l g e' (.i b)):Px Γ m l g (.BinOp e .Sub e' pos) (.i (a-b)):=Px.bin (λE Q t u h q=>nI q) x y
theorem Px.mul{a b:Int}{n k:Nat}(x:Px Γ m l g e (.i a))(y:Px Γ m l g e' (.i b))(ba:Bt n a)(bb:Bt k b)(hn:n+k<=134217728):Px Γ m l g (.BinOp e .Mult e' pos) (.i (a*b)):=Px.bin (λE Q t u h q=>cT ba bb hn q) x y
theorem Px.neg{a:Int}(x:Px Γ m l g e (.i a)):Px Γ m l g (.UnaryOp .USub e pos) (.i (-a)):=
 ⟨λE Q g1 h S F q=>sy (x.go _ _ g1 h S F λv g2 h2 S2 F2 ev=>by
  refine aP ev λt1 ak=>?_
  clear ev
  obtain rfl:=ak
  exact C3 λt=>q _ g2 h2 S2 F2 ⟨t,rfl⟩)⟩
theorem Px.ID(C:Co Γ r ns gs cs)(G:Gd g){x:Str}{id:String}{p:Pos}(hx:Gs gs x)(hv:Kv kS x (.builtin id))(a:Px Γ m l g e s)
  (k:∀(v:Value) (E Q:Value->Heap->Prop) (g' h:Heap),Sub g g'->Fv Γ g' m l h->s.is v g'->(∀u Mp h',Sub g' Mp->Fv Γ Mp m l h'->t.is u Mp->Q u h')->Wp Γ.A (call (.builtin id) [v]) Q E h)
  (he:eval (.Call (.Name x p) [e] [] pos) Γ.env=(do callWith pos (<-eval (.Name x p) Γ.env) [] (backTo pos (starEach [e] Γ.env)) (backToKw pos (keywordEach [] Γ.env))):=by rfl)
  (hs:starEach [e] Γ.env=(false,eval e Γ.env)::starEach [] Γ.env:=by rfl):Px Γ m l g (.Call (.Name x p) [e] [] pos) t:=
 ⟨λE Q g1 h S F q=>bw (by
  refine .of λgg d kk o Q' E' hQ hE=>?_
  refine nE (G.up S) λζ ζ G0=>?_
  refine wpAny_mono (Name_function_global (Q:=λv s'=>v= .builtin id/\s'=⟨h,gg,d,kk,o⟩) C.ev.kind (C.ev.gk _ hx.mem).1 (loadGlobal_builtin (C.ev.AK▸(G0.up F.keep).glob) (G0.gn hv.mem) (C.ev.Gn▸(G0.up F.keep).blt) (G0.bl hv.mem) ⟨rfl,rfl⟩) (C.ev.gk _ hx.mem).2) ?_ (λζ ζ z=>z)
  rintro _ _ ⟨rfl,rfl⟩
  refine hQ _ _ _ ?_
  refine eY ((Pa.cons a Pa.nil hs).go pos _ _ g1 h S F λvs g2 h2 S2 F2 b=>?_) hs
  cases b with|cons b1 b2=>
  cases b2
  exact k _ _ _ g2 h2 (S.trans S2) F2 b1 λu g3 h3 S3 F3 c=>q u g3 h3 (S2.trans S3) F3 c) he⟩
theorem Px.abs(C:Co Γ r ns gs cs)(G:Gd g){p:Pos}{a:Int}(hx:Gs gs (U "abs"))(x:Px Γ m l g e (.i a))
  (he:eval (.Call (.Name (U "abs") p) [e] [] pos) Γ.env=(do callWith pos (<-eval (.Name (U "abs") p) Γ.env) [] (backTo pos (starEach [e] Γ.env)) (backToKw pos (keywordEach [] Γ.env))):=by rfl)
  (hs:starEach [e] Γ.env=(false,eval e Γ.env)::starEach [] Γ.env:=by rfl):Px Γ m l g (.Call (.Name (U "abs") p) [e] [] pos) (.i (if a<0 then -a else a)):=
 Px.ID C G hx .hd x (λv E Q g' h S F c q=>by
  refine aP c λt1 ak=>?_
  clear c
  obtain rfl:=ak
  exact C4 λu=>q _ g' h (Sub.refl _) F ⟨u,rfl⟩) he hs
theorem Px.len(C:Co Γ r ns gs cs)(G:Gd g){p:Pos}{a:Addr}{xs:List Value}(hx:Gs gs (U "len"))(x:Px Γ m l g e (.v (.ref a)))(hl:Ls g a xs)(hz:xs.length<=100000)
  (he:eval (.Call (.Name (U "len") p) [e] [] pos) Γ.env=(do callWith pos (<-eval (.Name (U "len") p) Γ.env) [] (backTo pos (starEach [e] Γ.env)) (backToKw pos (keywordEach [] Γ.env))):=by rfl)
  (hs:starEach [e] Γ.env=(false,eval e Γ.env)::starEach [] Γ.env:=by rfl):Px Γ m l g (.Call (.Name (U "len") p) [e] [] pos) (.i xs.length):=
 Px.ID C G hx (.tl .hd) x (λv E Q g' h S F c q=>by
  cases c
  exact yR ((hl.up S).up F.keep) hz λu=>q _ g' h (Sub.refl _) F ⟨u,rfl⟩) he hs
theorem Px.item{a:Addr}{xs:List Value}{n:Int}{v:Value}(x:Px Γ m l g e (.v (.ref a)))(hl:Ls g a xs)(y:Px Γ m l g e' (.i n))(hx:xs[n.toNat]? =some v)(h0:0<=n:=by decide)(h1:n<2 ^ 62:=by decide)
  (hs:∀t,subscripted e' false (.ref a) (.int n t)=operate [.ref a,.int n t] (getItem (.ref a) (.int n t)):=by intro _;k_extra "R"):Px Γ m l g (.Subscript e e' pos) (.v v):=
 ⟨λE Q g1 h S F q=>iH (Px.two x y S F λb c g2 h2 S2 F2 p1 p2=>by
  cases p1
  refine aP p2 λt2 ak=>?_
  clear p2
  obtain rfl:=ak
  exact ki (((hl.up S).up S2).up F2.keep) h0 h1 hx (q _ g2 h2 S2 F2 rfl) (hs t2))⟩
theorem Px.part{a b:Int}{n:Int}{c:Int}(x:Px Γ m l g e (.p (.inr (a,b))))(y:Px Γ m l g e' (.i n))(hn:(n=0/\c=a)\/(n=1/\c=b))
  (hs:∀p t,subscripted e' false (.ref p) (.int n t)=operate [.ref p,.int n t] (getItem (.ref p) (.int n t)):=by intro _ _;k_extra "R"):Px Γ m l g (.Subscript e e' pos) (.i c):=
 ⟨λE Q g1 h S F q=>iH (Px.two x y S F λu v g2 h2 S2 F2 p1 p2=>by
  refine jH (p1:aD g2 u (.inr (a,b))) λp t1 t2 ak hp=>?_
  obtain rfl:=ak
  refine aP p2 λt3 ak=>?_
  clear p2
  obtain rfl:=ak
  rcases hn with⟨rfl,rfl⟩|⟨rfl,rfl⟩
  ·exact nJ (hp.up F2.keep.aj) (by decide) (by decide) rfl (q _ g2 h2 S2 F2 ⟨t1,rfl⟩) (hs p t3)
  ·exact nJ (hp.up F2.keep.aj) (by decide) (by decide) rfl (q _ g2 h2 S2 F2 ⟨t2,rfl⟩) (hs p t3))⟩
end
structure BS where
 B:List Row
 ops:List Value
 args:List Value
 sorts:List Value
 ae:List Value
 xs:List (Row×Addr×Value)
noncomputable def BS.l(s:BS)(k:dg):List Cell:=Bl k s.ops s.args s.sorts s.ae s.xs
structure Bf(k:dg)(s:BS)(l:List Cell)(g:Heap):Prop where
 gd:Gd g
 inst:In w.params g k.self 638 k.al
 d4:dS k
 bk:Bk k s.B s.ops s.args s.sorts s.ae s.xs g
 mem:∀c∈s.l k,c∈l
 len:s.B.length<=5000
theorem Bf.lf{k:dg}{s:BS}{l:List Cell}{g h:Heap}(b:Bf k s l g)(S:Sub g h):Bf k s l h:=⟨b.gd.up S,b.inst.up S,b.d4,b.bk.lf S,b.mem,b.len⟩
section
variable{Γ:Cx}{A:Around}{m m':Str->Option Value}{l:List Cell}{g g' h:Heap}{r:Nat}{ns gs:List Str}{cs:List (Str×Addr)}{e e':Expr}{s t:Sp}{pos:Pos}{k:dg}{b:BS}
theorem Px.key{d:Addr}{kvs:List (Str×Value)}{c:Str}{v:Value}{k':Nat}{p:Pos}(x:Px Γ m l g e (.v (.ref d)))(hl:Dd (strKind PW w) g d kvs)(hm:Kv kvs c v)
  (hs:∀t,subscripted (.Constant (.str c) k' p) false (.ref d) (.str c t)=operate [.ref d,.str c t] (getItem (.ref d) (.str c t)):=by intro _;k_extra "R"):Px Γ m l g (.Subscript e (.Constant (.str c) k' p) pos) (.v v):=
 ⟨λE Q g1 h S F q=>iH (x.go _ _ g1 h S F λu g2 h2 S2 F2 p1=>by
  cases p1
  refine cJ λt=>?_
  exact uy (knd:=strKind PW w) (((hl.up S).up S2).up F2.keep) (strKind_is PW _ _ _) hm (q _ g2 h2 S2 F2 rfl) (hs t))⟩
theorem Px.pair{a c:Int}{k':Nat}(nt:eH Γ.ρ)(x:Px Γ m l g e (.i a))(y:Px Γ m l g e' (.i c))(h1:starEach [e,e'] Γ.env=(false,eval e Γ.env)::starEach [e'] Γ.env:=by rfl)(h2:starEach [e'] Γ.env=(false,eval e' Γ.env)::starEach [] Γ.env:=by rfl):Px Γ m l g (.Tuple [e,e'] k' pos) (.p (.inr (a,c))):=
 ⟨λE Q g1 h S F q=>cK ((Pa.cons x (Pa.cons y Pa.nil h2) h1).go pos _ _ g1 h S F λvs g2 h2 S2 F2 p=>by
  cases p with|cons p1 p=>
  cases p with|cons p2 p=>
  cases p
  refine aP p1 λt1 ak=>?_
  clear p1
  obtain rfl:=ak
  refine aP p2 λt2 ak=>?_
  clear p2
  obtain rfl:=ak
  exact bh F2 (by show 2<=1000;decide) λa g3 h3 S3 T3 F3=>q _ g3 h3 (S2.trans S3) F3 ⟨a,t1,t2,rfl,T3⟩)⟩
theorem Px.zJ{x:Addr}{v:Value}{al:List (Str×Value)}(G:Gd g)(x0:Px Γ m l g e (.v (.ref x)))(I:In w.params g x 732 al)(hl:al.lookup (U "bank")=some v)(hv:handedIn v=true)
  (he:eval (.Attribute e (U "bank") pos) Γ.env=(do
   let o <-eval e Γ.env
   standAt pos.atName
   let r <-holding [o] (getAttr o (U "bank") true)
   letTemporaryGo e o r
   pure r):=by k_extra "R"):Px Γ m l g (.Attribute e (U "bank") pos) (.v v):=
 ⟨λE Q g1 h S F q=>yD (x0.go _ _ g1 h S F λu g2 h2 S2 F2 p=>by
  cases p
  exact yM (G.up ((S.trans S2).trans F2.keep)) (I.up ((S.trans S2).trans F2.keep)) hl hv (q _ g2 h2 S2 F2 rfl)) he⟩
theorem Mt.fW{name:Str}{f:Addr}(b:Bf k b l g)(hn:Kv ei name f):Mt k.self name f g:=⟨λA E pl Q h S q=>vC b.d4 (b.gd.up S) (b.inst.up S) hn.mem q⟩
theorem Mt.eO{nt:Addr}{name:Str}{f:Addr}{al:List (Str×Value)}(G:Gd g)(N:In w.params g nt 732 al)(hn:Kv kU name f)(hl:al.lookup name=none):Mt nt name f g:=⟨λA E pl Q h S q=>yN (G.up S) (N.up S) hn.mem hl q⟩
noncomputable def bM:CmpOp->Int->Int->Bool
 | .Eq,a,b=>a==b
 | .NotEq,a,b=>a !=b
 | .Lt,a,b=>decide (a<b)
 | .LtE,a,b=>decide (a<=b)
 | .Gt,a,b=>decide (a>b)
 | .GtE,a,b=>decide (a>=b)
 | .Is,_,_=>false
 | .IsNot,_,_=>false
 | .In,_,_=>false
 | .NotIn,_,_=>false
theorem Kc.int{op:CmpOp}{a c:Int}(ho:(op==.Eq||op==.NotEq||op==.Lt||op==.LtE||op==.Gt||op==.GtE)=true:=by rfl):Kc A op (.i a) (.i c) (bM op a c) g:=
 ⟨λE Q x y h S p q k=>by
  refine aP p λt ak=>?_
  clear p
  obtain rfl:=ak
  refine aP q λu ak=>?_
  clear q
  obtain rfl:=ak
  cases op with
  |Eq=>exact vg k
  |NotEq=>exact Ba k
  |Lt=>exact Hk k
  |LtE=>exact Hl k
  |Gt=>exact Hm k
  |GtE=>exact Hn k
  |_=>exact absurd ho (by decide)⟩
theorem Kc.seq{a c:Str}:Kc A .Eq (.s a) (.s c) (a==c) g:=⟨λE Q x y h S p q k=>by
 refine aP p λt ak=>?_
 clear p
 obtain rfl:=ak
 refine aP q λu ak=>?_
 clear q
 obtain rfl:=ak
 exact C9 k⟩
theorem Kc.OK{a c:Str}:Kc A .NotEq (.s a) (.s c) (a !=c) g:=⟨λE Q x y h S p q k=>by
 refine aP p λt ak=>?_
 clear p
 obtain rfl:=ak
 refine aP q λu ak=>?_
 clear q
 obtain rfl:=ak
 exact C_ k⟩
theorem Kc.rat(hA:Rm A 0){p q:Int×Int}:Kc A .Eq (.p (.inr p)) (.p (.inr q)) (decide (p=q)) g:=⟨λE Q x y h S p1 p2 k=>by
 refine Dm (x:=.inr p) (y:=.inr q) hA p1 p2 ?_
 refine(show decide ((Sum.inr p:Int ⊕ Int×Int)=Sum.inr q)=decide (p=q) from decide_eq_decide.mpr ⟨λh=>Sum.inr.inj h,λh=>by rw[h]⟩).symm▸?_
 exact k⟩
theorem Kc.Ez{a c:Bool}:Kc A .IsNot (.v (.bool a)) (.v (.bool c)) (!(a==c)) g:=⟨λE Q x y h S p q k=>by
 cases p;cases q;exact pP k⟩
theorem Kc.OL{a:Addr}:Kc A .Is (.v (.ref a)) (.v .none) false g:=⟨λE Q x y h S p q k=>by
 cases p;cases q;exact pR k⟩
theorem Kc.HN:Kc A .Is (.v .none) (.v .none) true g:=⟨λE Q x y h S p q k=>by
 cases p;cases q;exact y3 k⟩
theorem kA{s t:Sp}{g:Heap}{vs:List Value}(x:Ar g [s,t] vs):∃a b,vs=[a,b]/\s.is a g/\t.is b g:=by
 cases x with|cons p x=>cases x with|cons q x=>cases x;exact⟨_,_,rfl,p,q⟩
theorem Bf.cell{ρ:List (Addr×Obj)}{L:Addr}(x:Bf k b l g){g1:Heap}(F:Fx ρ g1 L m l h){a:Addr}{xs:List Value}(hm:(a,Lo xs)∈b.l k):Ls h a xs:=F.ls (x.mem _ hm)
theorem Lx{i:Nat}{t:Tok}{r:Row}(x:Bf k b l g)(hA:Rm A 1)(e:b.B[i]? =some r):Qc A 217 [.v (.ref k.self),.v (.int (i:Int) t)] (.s r.1) g l:=
 Qc.flat rfl λR ρ L m g1 h vs S F a kk=>by
  refine fv (kA a) λζ ζ ak p q=>?_
  obtain rfl:=ak
  cases p;cases q
  have hi:i<b.B.length:=(List.getElem?_eq_some_iff.mp e).1
  have:=x.len
  obtain⟨to,ts,va,vd,e1,e2,e3,e4,ra,rd⟩:=x.bk.rows.row e
  exact pT hA ((x.gd.up S).up F.keep) ((x.inst.up S).up F.keep) x.d4 (x.cell F List.mem_cons_self) e1 (by lia) λh' st=>kk _ h' st ⟨to,rfl⟩
theorem y6{i:Nat}{t:Tok}{r:Row}(x:Bf k b l g)(hA:Rm A 1)(e:b.B[i]? =some r):Qc A 231 [.v (.ref k.self),.v (.int (i:Int) t)] (.i r.2.2.1) g l:=
 Qc.flat rfl λR ρ L m g1 h vs S F a kk=>by
  refine fv (kA a) λζ ζ ak p q=>?_
  obtain rfl:=ak
  cases p;cases q
  have hi:i<b.B.length:=(List.getElem?_eq_some_iff.mp e).1
  have:=x.len
  obtain⟨to,ts,va,vd,e1,e2,e3,e4,ra,rd⟩:=x.bk.rows.row e
  exact iR hA ((x.gd.up S).up F.keep) ((x.inst.up S).up F.keep) x.d4 (x.cell F (.tail _ (.tail _ (.head _)))) e3 (by lia) λh' st=>kk _ h' st ⟨ts,rfl⟩
theorem Ey{i:Nat}{t:Tok}{r:Row}{q:Int×Int}(x:Bf k b l g)(hA:Rm A 1)(e:b.B[i]? =some r)(hd:r.2.2.2= .inr q):Qc A 238 [.v (.ref k.self),.v (.int (i:Int) t)] (.p (.inr q)) g l:=
 Qc.flat rfl λR ρ L m g1 h vs S F a kk=>by
  refine fv (kA a) λζ ζ ak p z=>?_
  obtain rfl:=ak
  cases p;cases z
  have hi:i<b.B.length:=(List.getElem?_eq_some_iff.mp e).1
  have:=x.len
  obtain⟨to,ts,va,vd,e1,e2,e3,e4,ra,rd⟩:=x.bk.rows.row e
  replace rd:=hd▸rd
  exact iS hA ((x.gd.up S).up F.keep) ((x.inst.up S).up F.keep) x.d4 (x.cell F (.tail _ (.tail _ (.tail _ (.head _))))) e4 (by lia) λh' st=>kk _ h' st (rd.up (S.aj.trans (F.keep.aj.trans (λa o t e=>st.keep a o e (λz=>nomatch z) λz=>nomatch z))))
theorem Ex{p q:Int×Int}{n:Nat}(G:Gd g)(hA:Rm A 1)(hp:aK n p)(hq:aK n q)(hn:n+n<=134217728):Qc A 790 [.p (.inr p),.p (.inr q)] (.v (.bool (p.1*q.2==q.1*p.2))) g l:=
 Qc.flat rfl λR ρ L m g1 h vs S F a kk=>by
  obtain⟨ζ,ζ,rfl,⟨pa,ta,tb,rfl,E4⟩,⟨qa,tc,td,rfl,E5⟩⟩:=kA a
  exact EW hA ((G.up S).up F.keep) (E4.up F.keep.aj) (E5.up F.keep.aj) hp.1 hp.2.1 hq.1 hq.2.1 hn λh' st=>kk _ h' st rfl
theorem Bx{a c:Int}(G:Gd g)(hA:Rm A 2)(hb:c≠0)(hB:Bt 9000 c):Qc A 84 [.i a,.i c] (.p (.inr (cm a c,bU a c))) g l:=
 Qc.flat rfl λR ρ L m g1 h vs S F ar kk=>by
  obtain⟨ζ,ζ,rfl,⟨ta,rfl⟩,⟨tb,rfl⟩⟩:=kA ar
  exact iQ hA ((G.up S).up F.keep) hb hB λr t u h' st hr=>kk _ h' st ⟨r,t,u,rfl,hr⟩
theorem aH{x:Str}{E:Value->Heap->Prop}{p:Pos}{Q:Flow->Heap->Prop}(C:Co Γ r ns gs cs)(F:Fv Γ g m l h)(hx:Gs ns x)(y:Px Γ m l g e s)(k:∀v m' g' h',Sub g g'->Fv Γ g' m' l h'->s.is v g'->St m x v m'->Q .next h')
  (hs:swapsWith e (some (.Name x p)) pos.line Γ.env=pure false):Wp Γ.A (exec (.Assign [.Name x p] e pos) Γ.env) Q E h:=
 aZ (y.go _ _ g h (Sub.refl _) F λv g2 h2 S2 F2 a=>.of λgg d kk o Q' E' hQ hE=>wpAny_storeName_local (C.ev.lk _ hx.mem).1 (C.ev.loc▸F2.ns) (λh' hn hs=>hQ _ _ _ (k v _ g2 h' S2 (F2.set (C.ev.loc▸hn) (C.ev.loc▸hs)) a rfl)) (by refine C.ev.kind.symm▸?_;rfl)) hs
theorem uO{test:Expr}{E:Value->Heap->Prop}{body orelse:List Stmt}{c:Bool}{Q:Flow->Heap->Prop}(F:Fv Γ g m l h)(t:Pb Γ m l g test c)(k:∀g' h',Sub g g'->Fv Γ g' m l h'->Wp Γ.A (execs (if c then body else orelse) Γ.env) Q E h'):Wp Γ.A (exec (.If test body orelse pos) Γ.env) Q E h:=
 ve (t.go _ _ g h (Sub.refl _) F λg2 h2 S2 F2=>by
  have z:=k g2 h2 S2 F2
  cases c <;> exact z)
theorem bR{Q:Flow->Heap->Prop}{E:Value->Heap->Prop}(F:Fv Γ g m l h)(y:Px Γ m l g e s)(k:∀v g' h',Sub g g'->Fv Γ g' m l h'->s.is v g'->Q (.ret v) h'):Wp Γ.A (exec (.Return (some e) pos) Γ.env) Q E h:=
 bJ (y.go _ _ g h (Sub.refl _) F k)
end
def Ps(m:Str->Option Value)(kvs:List (Str×Value)):Prop:=∀p∈kvs,m p.1=some p.2
theorem Ps.nil(m:Str->Option Value):Ps m []:=λζ h=>nomatch h
theorem Ps.cons{m:Str->Option Value}{x:Str}{v:Value}{kvs:List (Str×Value)}(e:m x=some v)(p:Ps m kvs):Ps m ((x,v)::kvs):=λq hq=>by
 rcases List.mem_cons.mp hq with rfl|hq
 ·exact e
 ·exact p q hq
theorem Ps.at{m:Str->Option Value}{x:Str}{v:Value}{kvs:List (Str×Value)}(p:Ps m kvs)(h:Kv kvs x v):m x=some v:=p (x,v) h.mem
theorem Ps.a0{m:Str->Option Value}{x:Str}{v:Value}{kvs:List (Str×Value)}(p:Ps m ((x,v)::kvs)):m x=some v:=p (x,v) (.head _)
theorem Ps.a1{m:Str->Option Value}{x:Str}{v:Value}{p0:Str×Value}{kvs:List (Str×Value)}(p:Ps m (p0::(x,v)::kvs)):m x=some v:=p (x,v) (.tail _ (.head _))
theorem Ps.a2{m:Str->Option Value}{x:Str}{v:Value}{p0 p1:Str×Value}{kvs:List (Str×Value)}(p:Ps m (p0::p1::(x,v)::kvs)):m x=some v:=p (x,v) (.tail _ (.tail _ (.head _)))
theorem Ps.a3{m:Str->Option Value}{x:Str}{v:Value}{p0 p1 p2:Str×Value}{kvs:List (Str×Value)}(p:Ps m (p0::p1::p2::(x,v)::kvs)):m x=some v:=p (x,v) (.tail _ (.tail _ (.tail _ (.head _))))
theorem Ps.a4{m:Str->Option Value}{x:Str}{v:Value}{p0 p1 p2 p3:Str×Value}{kvs:List (Str×Value)}(p:Ps m (p0::p1::p2::p3::(x,v)::kvs)):m x=some v:=p (x,v) (.tail _ (.tail _ (.tail _ (.tail _ (.head _)))))
theorem Ps.a5{m:Str->Option Value}{x:Str}{v:Value}{p0 p1 p2 p3 p4:Str×Value}{kvs:List (Str×Value)}(p:Ps m (p0::p1::p2::p3::p4::(x,v)::kvs)):m x=some v:=p (x,v) (.tail _ (.tail _ (.tail _ (.tail _ (.tail _ (.head _))))))
theorem Ps.a6{m:Str->Option Value}{x:Str}{v:Value}{p0 p1 p2 p3 p4 p5:Str×Value}{kvs:List (Str×Value)}(p:Ps m (p0::p1::p2::p3::p4::p5::(x,v)::kvs)):m x=some v:=p (x,v) (.tail _ (.tail _ (.tail _ (.tail _ (.tail _ (.tail _ (.head _)))))))
theorem Ps.a7{m:Str->Option Value}{x:Str}{v:Value}{p0 p1 p2 p3 p4 p5 p6:Str×Value}{kvs:List (Str×Value)}(p:Ps m (p0::p1::p2::p3::p4::p5::p6::(x,v)::kvs)):m x=some v:=p (x,v) (.tail _ (.tail _ (.tail _ (.tail _ (.tail _ (.tail _ (.tail _ (.head _))))))))
theorem Ps.a8{m:Str->Option Value}{x:Str}{v:Value}{p0 p1 p2 p3 p4 p5 p6 p7:Str×Value}{kvs:List (Str×Value)}(p:Ps m (p0::p1::p2::p3::p4::p5::p6::p7::(x,v)::kvs)):m x=some v:=p (x,v) (.tail _ (.tail _ (.tail _ (.tail _ (.tail _ (.tail _ (.tail _ (.tail _ (.head _)))))))))
theorem Ps.st{m m':Str->Option Value}{x:Str}{v:Value}{kvs:List (Str×Value)}(p:Ps m kvs)(s:St m x v m')(hk:(kvs.map (·.1)).all (λy=>decide (y=x)==false)=true):Ps m' kvs:=λq hq=>by
 refine s.tl ?_ (p q hq)
 have:=List.all_eq_true.mp hk q.1 (List.mem_map.mpr ⟨q,hq,rfl⟩)
 simpa using this
section
variable{Γ:Cx}{A:Around}{E:Value->Heap->Prop}{m m':Str->Option Value}{l:List Cell}{g g' h:Heap}{r:Nat}{ns gs:List Str}{cs:List (Str×Addr)}{e e':Expr}{s t:Sp}{pos:Pos}{ρ:List (Addr×Obj)}
theorem Dv{ps rest:List Str}{as:List Value}(hl:ps.length=as.length)(nd:(ps++rest).Nodup):Ps (mv (ps++rest) (as.map some++rest.map λζ=>none)) (ps.zip as):=λp hp=>by
 refine(yv ps as rest p.1 hl).symm▸?_
 refine fD ?_ hp
 refine(List.map_fst_zip (Nat.le_of_eq hl)).symm▸?_
 exact(List.nodup_append.mp nd).1
theorem gB:∀kvs:List (Str×Value),(kvs.map (·.1)).zip (kvs.map (·.2))=kvs
 |[]=>rfl
 |(a,b)::l=>by rw[List.map_cons,List.map_cons,List.zip_cons_cons,gB l]
theorem gD(kvs:List (Str×Value))(rest:List Str){f:Addr}{aG:FuncData}{body:List Stmt}{args:List Value}{R:Result->Heap->Prop}{oc:Value}{od:Option Addr}{oZ:Array (Option Value)}(x:Gr ρ g h l)(nt:eH ρ)(G:Gd g)(hA:Rm A (r+1))
  (ho:g.get? f=some ⟨oc,od,.func aG,oZ⟩)(i8:g.CodeRec aG.code aG.qualname)(bK:aG.body= .stmts body)(bB:bindArgs aG ⟨args,[]⟩=pure kvs)(fY:ns=kvs.map (·.1)++rest)(jR:args=kvs.map (·.2))
  (g_:(ij aG ns gs&&aG.scope.names.all (λy=>y.2 !=.cell)&&!aG.scope.isCoroutine&&!aG.scope.isGenerator)=true)
  (k:∀Γ m g' h',Γ.ρ=ρ->Γ.env=callEnv aG Γ.L f->Γ.A=A.deeper Γ.env->Co Γ r ns gs []->Ps m kvs->Sub g g'->Fv Γ g' m l h'->Wp Γ.A (execs body Γ.env) (qX R) (Lv Γ.A Γ.env R) h'):Cd A (.call (.ref f) ⟨args,[]⟩) R h:=by
 have hl:(kvs.map (·.1)).length=args.length:=by refine jR.symm▸?_;simp
 refine dq x G hA ho i8 bK (ps:=kvs.map (·.1)) (by rw[jR] at bB ⊢;refine(gB ..).symm▸?_;exact bB) fY rfl hl g_ λL g' h' env A1 e1 e2 hr O S F=>?_
 refine k ⟨A1,env,ρ,L⟩ _ g' h' rfl e1 e2 ⟨hr,O,Ec.nil,nt⟩ ?_ S F
 have:=Dv (rest:=rest) hl (by refine fY▸?_;exact O.nd)
 replace this:=(gB ..)▸jR▸this
 refine fY.symm▸jR.symm▸?_
 exact this
theorem Gr.d5{l':List Cell}{h':Heap}(x:Gr ρ g h l)(eX:Γ.ρ=ρ)(F:Fv Γ g' m l' h')(S:Sub g g'):Step ρ l h l' h':=by
 subst eX
 exact x.done F S
theorem tJ{x:Str}{p:Pos}{iter:Expr}{body:List Stmt}{a:Addr}{xs:List Value}{kvs:List (Str×Value)}{Q:Flow->Heap->Prop}(C:Co Γ r ns gs cs)(F:Fv Γ g m l h)(y:Px Γ m l g iter (.v (.ref a)))(hl:Ls g a xs)(hx:Gs ns x)(P:Ps m kvs)(hk:(kvs.map (·.1)).all (λy=>decide (y=x)==false)=true)
  (turn:∀(i:Nat) (v:Value) m1 g1 h1 c Q',xs[i]? =some v->Sub g g1->Fv Γ g1 m1 (c::l) h1->Ps m1 kvs->m1 x=some v->(∀m2 g2 h2,Sub g1 g2->Fv Γ g2 m2 (c::l) h2->Ps m2 kvs->Q' .next h2)->(∀u h2,Q (.ret u) h2->Q' (.ret u) h2)->Wp Γ.A (execs body Γ.env) Q' (λζ ζ=>False) h1)
  (done:∀m1 g1 h1,Sub g g1->Fv Γ g1 m1 l h1->Ps m1 kvs->Q .next h1)
  (hs:∀x,foldedSetIterable iter Γ.env x=pure x:=by intro _;rfl):Wp Γ.A (exec (.For (.Name x p) iter body [] pos) Γ.env) Q E h:=by
 refine gQ (n:=xs.length) (P:=λi v=>xs[i]? =some v) Γ.ρ Γ.L C.rm.hd (λi g1 m1 l1=>Sub g g1/\l1=l/\Ps m1 kvs) ?_ ?_ ?_ hs
 ·exact y.go _ _ g h (Sub.refl _) F λv g2 h2 S2 F2 q=>by
   cases q
   exact⟨g2,m,l,F2,Src.list (hl.up S2),S2,rfl,P⟩
 ·rintro i v g1 m1 l1 h1 it q hi hv ⟨S1,rfl,P1⟩ F1
  refine aY (.of λgg d kk o Q' E' hQ hE=>wpAny_storeName_local (C.ev.lk _ hx.mem).1 (C.ev.loc▸F1.ns) (λh' hn hs=>hQ _ _ _ ?_) (by refine C.ev.kind.symm▸?_;rfl))
  have F2:=F1.set (C.ev.loc▸hn) (C.ev.loc▸hs)
  refine turn i v _ g1 h' _ _ hv S1 F2 (P1.st (m':=_) rfl hk) (St.hd (m:=m1) rfl) (λm2 g2 h2 S2 F3 P3=>⟨g2,m2,_,F3,S2,S1.trans S2,rfl,P3⟩) (λu h2 q=>q)
 ·rintro g1 m1 l1 h1 g2 ⟨S1,rfl,P1⟩ S2 F2
  exact done m1 g2 h1 (S1.trans S2) F2 P1
theorem qz(C:Co Γ r ns gs cs)(F:Fv Γ g m l h)(G:Gd g){name:Str}{f:Addr}{ob:Obj}{fd:FuncData}{e0:Expr}{es:List Expr}{ss:List Sp}{ap:Pos}{pl:Sem Bool}{Q:Value->Heap->Prop}(x0:Px Γ m l g e0 s)(M:∀v g1,Sub g g1->s.is v g1->∃x,v= .ref x/\Mt x name f g1)(hK:(K w.params)[C6 f]? =some (f,ob))(hd:ob.data= .func fd)(a:Pa Γ m l g (e::es) ss)
  (k:∀v vs g' h',Sub g g'->Fv Γ g' m l h'->s.is v g'->Ar g' ss vs->Wp Γ.A (call (.ref f) ([v]++vs)) Q E h')
  (he:eval (.Call (.Attribute e0 name ap) (e::es) [] pos) Γ.env=(do
   let ov <-eval e0 Γ.env
   standAt ap.atName
   let(f,first) <-holding [ov] (getMethod ov name pl)
   callWith pos f first (backTo pos (starEach (e::es) Γ.env)) []):=by rfl)
  (hs:starEach (e::es) Γ.env=(false,eval e Γ.env)::starEach es Γ.env:=by rfl):Wp Γ.A (eval (.Call (.Attribute e0 name ap) (e::es) [] pos) Γ.env) Q E h:=
 dH (x0.go _ _ g h (Sub.refl _) F λv g2 h2 S2 F2 e2=>by
  refine aU (M v g2 S2 e2) λx ak M=>?_
  obtain rfl:=ak
  refine M.go _ _ _ _ _ F2.keep ?_
  refine b_ hK hd (a.go pos _ _ g2 h2 S2 F2 λvs g3 h3 S3 F3 b=>⟨(G.up (S2.trans S3)).up F3.keep,?_⟩) hs
  exact k _ vs g3 h3 (S2.trans S3) F3 (Sp.up _ S3 e2) b) he
theorem di(C:Co Γ r ns gs cs)(F:Fv Γ g m l h)(G:Gd g){name:Str}{f:Addr}{ob:Obj}{fd:FuncData}{e0:Expr}{es:List Expr}{ss:List Sp}{ap:Pos}{pl:Sem Bool}{Q:Value->Heap->Prop}(x0:Px Γ m l g e0 s)(M:∀v g1,Sub g g1->s.is v g1->∃x,v= .ref x/\Mt x name f g1)(hK:(K w.params)[C6 f]? =some (f,ob))(hd:ob.data= .func fd)(a:Pa Γ m l g (e::es) ss)
  (k:∀g' h',Sub g g'->Fv Γ g' m l h'->s.all g' λv=>E2 ss g' λvs=>Wp Γ.A (call (.ref f) ([v]++vs)) Q E h')
  (he:eval (.Call (.Attribute e0 name ap) (e::es) [] pos) Γ.env=(do
   let ov <-eval e0 Γ.env
   standAt ap.atName
   let(f,first) <-holding [ov] (getMethod ov name pl)
   callWith pos f first (backTo pos (starEach (e::es) Γ.env)) []):=by rfl)
  (hs:starEach (e::es) Γ.env=(false,eval e Γ.env)::starEach es Γ.env:=by rfl):Wp Γ.A (eval (.Call (.Attribute e0 name ap) (e::es) [] pos) Γ.env) Q E h:=
 qz C F G x0 M hK hd a (λv vs g' h' S F q b=>E2.of b (Sp.ot (k g' h' S F) q)) he hs
theorem lT(C:Co Γ r ns gs cs)(F:Fv Γ g m l h)(G:Gd g){x:Str}{f:Addr}{ob:Obj}{fd:FuncData}{es:List Expr}{ss:List Sp}{p:Pos}{Q:Value->Heap->Prop}(hx:Gs gs x)(hv:Kv kR x (.ref f))(hK:(K w.params)[C6 f]? =some (f,ob))(hd:ob.data= .func fd)(a:Pa Γ m l g (e::es) ss)
  (k:∀g' h',Sub g g'->Fv Γ g' m l h'->E2 ss g' λvs=>Wp Γ.A (call (.ref f) ([]++vs)) Q E h')
  (he:eval (.Call (.Name x p) (e::es) [] pos) Γ.env=(do callWith pos (<-eval (.Name x p) Γ.env) [] (backTo pos (starEach (e::es) Γ.env)) (backToKw pos (keywordEach [] Γ.env))):=by rfl)
  (hs:starEach (e::es) Γ.env=(false,eval e Γ.env)::starEach es Γ.env:=by rfl):Wp Γ.A (eval (.Call (.Name x p) (e::es) [] pos) Γ.env) Q E h:=
 bw ((Px.glob C G hx hv).go _ _ g h (Sub.refl _) F λv g2 h2 S2 F2 e2=>by
  cases e2
  refine b_ hK hd (a.go pos _ _ g2 h2 S2 F2 λvs g3 h3 S3 F3 b=>⟨(G.up (S2.trans S3)).up F3.keep,?_⟩) hs
  exact E2.of b (k g3 h3 (S2.trans S3) F3)) he
theorem aA{x:Str}{v:Value}{Q:Unit->Heap->Prop}(C:Co Γ r ns gs cs)(F:Fv Γ g m l h)(hx:Gs ns x)(k:∀m' h',Fv Γ g m' l h'->St m x v m'->Q () h'):Wp Γ.A (storeName Γ.env x v) Q E h:=
 .of λgg d kk o Q' E' hQ hE=>wpAny_storeName_local (C.ev.lk _ hx.mem).1 (C.ev.loc▸F.ns) (λh' hn hs=>hQ _ _ _ (k _ h' (F.set (C.ev.loc▸hn) (C.ev.loc▸hs)) rfl)) (by refine C.ev.kind.symm▸?_;rfl)
theorem aN{test:Expr}{body orelse:List Stmt}{c:Bool}{Q:Flow->Heap->Prop}(F:Fv Γ g m l h)(t:Pb Γ m l g test c)(hc:c=false)(k:∀g' h',Sub g g'->Fv Γ g' m l h'->Wp Γ.A (execs orelse Γ.env) Q E h'):Wp Γ.A (exec (.If test body orelse pos) Γ.env) Q E h:=
 uO F t λg' h' S F'=>by subst hc;exact k g' h' S F'
theorem b9{test:Expr}{body orelse:List Stmt}{c:Bool}{Q:Flow->Heap->Prop}(F:Fv Γ g m l h)(t:Pb Γ m l g test c)(hc:c=true)(k:∀g' h',Sub g g'->Fv Γ g' m l h'->Wp Γ.A (execs body Γ.env) Q E h'):Wp Γ.A (exec (.If test body orelse pos) Γ.env) Q E h:=
 uO F t λg' h' S F'=>by subst hc;exact k g' h' S F'
end
theorem Mq{g:Heap}{xs:List Value}:∀v g',Sub g g'->(Sp.l xs).is v g'->Src g' v xs.length λi v=>xs[i]? =some v:=λv g' ζ q=>by
 refine aU q λa ak hl=>?_
 clear q
 obtain rfl:=ak
 exact Src.list hl
structure we(Γ:Cx)(m:Str->Option Value)(l:List Cell)(g:Heap)(ifs:List Expr)(c:Bool):Prop where
 of::
 go:∀(E:Value->Heap->Prop) (Q:Bool->Heap->Prop) (g1 h:Heap),Sub g g1->Fv Γ g1 m l h->(∀g' h',Sub g1 g'->Fv Γ g' m l h'->Q c h')->Wp Γ.A (tests ifs Γ.env) Q E h
theorem Ar.EZ{g h:Heap}{ss:List Sp}{vs:List Value}(fl:∀s∈ss,s.flat=true)(t:cy g h)(x:Ar g ss vs):Ar h ss vs:=by
 induction x with
 |nil=>exact .nil
 |cons a _ ih=>exact .cons (Sp.EZ _ (fl _ List.mem_cons_self) t a) (ih λs hs=>fl s (List.mem_cons_of_mem _ hs))
theorem Ar.snoc{g:Heap}{s:Sp}{v:Value}(p:s.is v g){ss:List Sp}{vs:List Value}(x:Ar g ss vs):Ar g (ss++[s]) (vs++[v]):=by
 induction x with
 |nil=>exact .cons p .nil
 |cons a _ ih=>exact .cons a ih
inductive Tu(Γ:Cx)(m:Str->Option Value)(l:List Cell)(g:Heap)(ifs:List Expr)(elt:Expr):Option Sp->Prop
 |yes {s}:we Γ m l g ifs true->Px Γ m l g elt s->s.flat=true->Tu Γ m l g ifs elt (some s)
 |no:we Γ m l g ifs false->Tu Γ m l g ifs elt none
section
variable{Γ:Cx}{A:Around}{E:Value->Heap->Prop}{m m':Str->Option Value}{l l':List Cell}{g g' h h':Heap}{r:Nat}{ns gs:List Str}{cs:List (Str×Addr)}{e e':Expr}{s t:Sp}{pos:Pos}
theorem we.nil:we Γ m l g [] true:=⟨λE Q g1 h S F q=>lz (q g1 h (Sub.refl _) F)⟩
theorem we.one{c:Bool}(x:Pb Γ m l g e c):we Γ m l g [e] c:=⟨λE Q g1 h S F q=>lA (x.go _ _ g1 h S F q)⟩
theorem gV{ts:List (Option Sp)}{i:Nat}{o:Option Sp}(e:ts[i]? =some o):(ts.take (i+1)).filterMap id=(ts.take i).filterMap id++o.toList:=by
 refine List.take_add_one.symm▸e.symm▸List.filterMap_append.symm▸?_
 cases o <;> rfl
theorem dj(ts:List (Option Sp)){elt iter:Expr}{x y:Str}{px py:Pos}{ifs:List Expr}{scope:Scope}{cl:List (Str×Addr)}{lI:Pos}{xs:List Value}{gs':List Str}{Q:Flow->Heap->Prop}(C:Co Γ r ns gs cs)(F:Fv Γ g m l h)(y0:Px Γ m l g iter s)(EO:Gs ns y)(E6:∀p∈cl,p∈cs)
  (EP:swapsWith (.ListComp elt [⟨.Name x px,iter,ifs,0⟩] scope pos) (some (.Name y py)) lI.line Γ.env=pure true)(dN:closureFor scope Γ.env=pure cl)(km:qt scope x gs' (cl.map (·.1))=true)(hz:xs.length<=100)(hlen:ts.length=xs.length)
  (turn:∀(i:Nat) (v:Value) qA mc lc g1,xs[i]? =some v->Co qA r [x] gs' cl->mc x=some v->(∀c∈l,c∈lc)->Sub g g1->∃o,ts[i]? =some o/\Tu qA mc lc g1 ifs elt o)
  (k:∀D ys g' h' m',Sub g g'->Fv Γ g' m' l h'->Ls g' D ys->Ar g' (ts.filterMap id) ys->St m y (.ref D) m'->Q .next h')
  (hs:∀x,foldedSetIterable iter Γ.env x=pure x:=by intro _;rfl)(src:∀v g',Sub g g'->s.is v g'->Src g' v xs.length λi v=>xs[i]? =some v:=by exact Mq):Wp Γ.A (exec (.Assign [.Name y py] (.ListComp elt [⟨.Name x px,iter,ifs,0⟩] scope pos) lI) Γ.env) Q E h:=by
 have e0:=km
 unfold qt at e0
 replace e0:=(Bool.and_eq_true ..)▸(Bool.and_eq_true ..)▸(Bool.and_eq_true ..)▸e0
 refine mw (n:=xs.length) (P:=λi v=>xs[i]? =some v) Γ.ρ Γ.L C.rm.hd C.ev EO.mem EP dN e0.1.1.1 (λi ys g1 l1=>l1=l/\Sub g g1/\ys.length<=i/\i<=100/\Ar g1 ((ts.take i).filterMap id) ys/\∀s∈(ts.take i).filterMap id,s.flat=true) (λi ys g1 l1 q=>by lia) ?_ ?_ hs
 ·refine y0.go _ _ g h (Sub.refl _) F λv g2 h2 S2 F2 p=>?_
  refine⟨g2,m,l,F2,src v g2 S2 p,λg3 S3=>⟨rfl,S2.trans S3,Nat.le_refl _,by lia,.nil,λs hs=>nomatch hs⟩,λD ys g3 g4 l4 h4 q T S4 F4=>?_⟩
  refine OE q λak S3 uL ζ ar fl=>?_
  clear q
  obtain rfl:=ak
  rw[<-hlen,List.take_length] at ar fl
  obtain⟨g5,S5,hD,F5⟩:=Fx.freeze F4
  exact k D ys g5 h4 _ (S2.trans (S4.trans S5)) F5 hD (ar.EZ fl (T.trans S5.aj)) rfl
 ·rintro i v ys g1 l1 h1 it p D C0 hi hv ⟨rfl,S1,uL,Dw,ar,fl⟩ F1
  have IE:=tF (C:=C0) C.ev C.ec E6 km
  refine aU (turn i v ⟨Γ.A,compEnvC scope cl C0 Γ.env,Γ.ρ,C0⟩ (mv [x] [some v]) ((it,p)::(D,Lo ys)::l1) g1 hv ⟨C.rm,IE.1,IE.2,C.nt⟩ (by simp[mv]) (λc hc=>List.mem_cons_of_mem _ (List.mem_cons_of_mem _ hc)) S1) λo eo tu=>?_
  cases tu with
  |no pt=>
   refine pt.go _ _ g1 h1 (Sub.refl _) F1 λg2 h2 S2 F2=>?_
   exact⟨g2,l1,F2,S2,rfl,S1.trans S2,by lia,by lia,by refine(gV eo).symm▸?_;simpa using ar.up S2,by refine(gV eo).symm▸?_;simpa using fl⟩
  |@yes s1 pt px fs=>
   refine pt.go _ _ g1 h1 (Sub.refl _) F1 λg2 h2 S2 F2=>?_
   refine px.go _ _ g2 h2 S2 F2 λu g3 h3 S3 F3 q=>?_
   exact⟨g3,l1,F3,S2.trans S3,rfl,S1.trans (S2.trans S3),by simp;lia,by lia,by refine(gV eo).symm▸?_;exact(ar.up (S2.trans S3)).snoc q,by
    refine(gV eo).symm▸?_
    intro s' mP
    rcases List.mem_append.mp mP with z|z
    ·exact fl s' z
    ·refine(List.mem_singleton.mp z).symm▸?_;exact fs⟩
end
section
variable{Γ:Cx}{A:Around}{E:Value->Heap->Prop}{m m':Str->Option Value}{l l':List Cell}{g g' h h':Heap}{r:Nat}{ns gs:List Str}{cs:List (Str×Addr)}{e e':Expr}{s t:Sp}{pos:Pos}{ρ:List (Addr×Obj)}{L:Addr}
theorem dG(kvs:List (Str×Value))(rest:List Str)(cc:Addr->List (Str×Addr))(cl:Addr->List (Addr×Option Value)){f:Addr}{aG:FuncData}{body:List Stmt}{binds:List (Str×Value)}{args:List Value}{R:Result->Heap->Prop}{oc:Value}{od:Option Addr}{oZ:Array (Option Value)}(x:Gr ρ g h l)(nt:eH ρ)(G:Gd g)(hA:Rm A (r+1))
  (ho:g.get? f=some ⟨oc,od,.func aG,oZ⟩)(i8:g.CodeRec aG.code aG.qualname)(bK:aG.body= .stmts body)(bB:bindArgs aG ⟨args,[]⟩=pure binds)
  (hf:(binds.filter λp=>aG.scope.names.lookup p.1==some .local)=kvs)(fY:ns=kvs.map (·.1)++rest)
  (AL:∀n,cellsFrom n aG.scope.names []=cc n)(j4:∀n,(cc n).map (λp=>(p.2,bindC (λy=>aG.scope.names.lookup y) binds (λζ=>none) p.1))=cl n)
  (g_:(ij aG ns gs&&!aG.scope.isCoroutine&&!aG.scope.isGenerator&&aG.closure.isEmpty&&(binds.all λp=>aG.scope.names.lookup p.1==some .local||(aG.scope.names.lookup p.1==some .cell&&(List.lookup p.1 (cc 0)).isSome))&&((cc 0).all λp=>aG.scope.names.lookup p.1==some .cell&&!(p.1==("__debug__":Str)))&&decide ((cc 0).map (·.1)).Nodup)=true)
  (Bs:∀n,(cc n).map (·.1)=(cc 0).map (·.1))
  (k:∀Γ m g' h',Γ.ρ=ρ->Γ.env=callEnvC aG Γ.L f->Γ.A=A.deeper Γ.env->Co Γ r ns gs (cc (Γ.L+1))->Ps m kvs->Sub g g'->Fv Γ g' m ((cl (Γ.L+1)).map (λp=>(p.1,Ce p.2))++l) h'->Wp Γ.A (execs body Γ.env) (qX R) (Lv Γ.A Γ.env R) h'):Cd A (.call (.ref f) ⟨args,[]⟩) R h:=by
 refine pQ (ps:=kvs.map (·.1)) (as:=kvs.map (·.2)) x G hA ho i8 bK bB (by refine(gB ..).symm▸?_;exact hf) fY rfl (by simp) AL j4 g_ Bs λL g' h' env A1 e1 e2 hr O C S F=>?_
 refine k ⟨A1,env,ρ,L⟩ _ g' h' rfl e1 e2 ⟨hr,O,C,nt⟩ ?_ S F
 have:=Dv (ps:=kvs.map (·.1)) (as:=kvs.map (·.2)) (rest:=rest) (by simp) (by refine fY▸?_;exact O.nd)
 replace this:=(gB ..)▸this
 refine fY.symm▸?_
 exact this
theorem wg(kvs:List (Str×Value))(rest:List Str)(cc:Addr->List (Str×Addr))(cl:Addr->List (Addr×Option Value)){f:Addr}{aG:FuncData}{body:List Stmt}{binds:List (Str×Value)}{args:List Value}{R:Result->Heap->Prop}{oc:Value}{od:Option Addr}{oZ:Array (Option Value)}(x:Gr ρ g h l)(nt:eH ρ)(G:Gd g)(hA:Rm A (r+1))
  (ho:g.get? f=some ⟨oc,od,.func aG,oZ⟩)(i8:g.CodeRec aG.code aG.qualname)(bK:aG.body= .stmts body)(bB:bindArgs aG ⟨args,[]⟩=pure binds)
  (hf:(binds.filter λp=>aG.scope.names.lookup p.1==some .local)=kvs)(fY:ns=kvs.map (·.1)++rest)
  (AL:∀n,cellsFrom n aG.scope.names []=cc n)(j4:∀n,(cc n).map (λp=>(p.2,bindC (λy=>aG.scope.names.lookup y) binds (λζ=>none) p.1))=cl n)
  (g_:(ij aG ns gs&&!aG.scope.isCoroutine&&!aG.scope.isGenerator&&aG.closure.isEmpty&&(binds.all λp=>aG.scope.names.lookup p.1==some .local||(aG.scope.names.lookup p.1==some .cell&&(List.lookup p.1 (cc 0)).isSome))&&((cc 0).all λp=>aG.scope.names.lookup p.1==some .cell&&!(p.1==("__debug__":Str)))&&decide ((cc 0).map (·.1)).Nodup)=true)
  (Bs:∀n,(cc n).map (·.1)=(cc 0).map (·.1))
  (k:∀Γ m g' h',Γ.ρ=ρ->Γ.env=callEnvC aG Γ.L f->Γ.A=A.deeper Γ.env->Co Γ r ns gs (cc (Γ.L+1))->Ps m kvs->Sub g g'->(∀p∈cl (Γ.L+1),Gt g' p.1 (Ce p.2))->Fv Γ g' m l h'->Wp Γ.A (execs body Γ.env) (qX R) (Lv Γ.A Γ.env R) h'):Cd A (.call (.ref f) ⟨args,[]⟩) R h:=
 dG kvs rest cc cl x nt G hA ho i8 bK bB hf fY AL j4 g_ Bs λΓ m g1 h1 a b c C P S F=>by
  refine fF F.tE λg2 S2 kk F2=>?_
  exact k Γ m g2 h1 a b c C P (S.trans S2) kk F2
theorem Qc.led{f:Addr}{ss:List Sp}(fl:s.flat=true)(k:∀(R:Result->Heap->Prop) (G h:Heap) (vs:List Value),Sub g G->Gr [] G h l->Ar G ss vs->(∀v h',Step [] l h l h'->s.is v h'->R (.ok (.ret v)) h')->Cd A (.call (.ref f) ⟨vs,[]⟩) R h):Qc A f ss s g l:=
 ⟨λR ρ L m g1 h vs nt S F a kk=>by
  obtain⟨G,x,S1⟩:=Fx.bF F
  exact k R G h vs (S.trans S1) x (a.up S1) λv h' st q=>by
   obtain⟨g2,S2,F2⟩:=Fx.aT F st
   exact kk v g2 h' S2 F2 (Sp.EZ _ fl (F2.aj nt) q)⟩
theorem Px.Dx{a:Addr}{xs:List Value}{n:Int}{v:Value}(x:Px Γ m l g e (.v (.ref a)))(ht:Tp g a xs)(y:Px Γ m l g e' (.i n))(hx:xs[n.toNat]? =some v)(h0:0<=n)(h1:n<2 ^ 62)
  (hs:∀t,subscripted e' false (.ref a) (.int n t)=operate [.ref a,.int n t] (getItem (.ref a) (.int n t))):Px Γ m l g (.Subscript e e' pos) (.v v):=
 ⟨λE Q g1 h S F q=>iH (Px.two x y S F λb c g2 h2 S2 F2 p1 p2=>by
  cases p1
  refine aP p2 λt2 ak=>?_
  clear p2
  obtain rfl:=ak
  exact nJ (ht.up (S.trans (S2.trans F2.keep)).aj) h0 h1 hx (q _ g2 h2 S2 F2 rfl) (hs t2))⟩
theorem Px.or{es:List Expr}{b c:Bool}(x:Px Γ m l g e (.v (.bool b)))(y:b=false->Px Γ m l g (.BoolOp .Or (e'::es) pos) (.v (.bool c))):Px Γ m l g (.BoolOp .Or (e::e'::es) pos) (.v (.bool (b||c))):=
 ⟨λE Q g1 h S F q=>Hi (x.go _ _ g1 h S F λv g2 h2 S2 F2 ev=>by
  cases ev
  refine bu ?_
  cases b with
  |true=>exact q _ g2 h2 S2 F2 rfl
  |false=>exact(y rfl).go _ _ g2 h2 (S.trans S2) F2 λv g3 h3 S3 F3 ev=>q v g3 h3 (S2.trans S3) F3 ev)⟩
theorem Px.not{b:Bool}(x:Px Γ m l g e (.v (.bool b))):Px Γ m l g (.UnaryOp .Not e pos) (.v (.bool (!b))):=
 ⟨λE Q g1 h S F q=>sy (x.go _ _ g1 h S F λv g2 h2 S2 F2 ev=>by
  cases ev
  exact yY (q _ g2 h2 S2 F2 rfl))⟩
def Tr(Γ:Cx)(l:List Cell)(g:Heap)(x:Str)(body:List Stmt)(Q:Flow->Heap->Prop)(P:Nat->Value->Heap->Prop)(I:Nat->Heap->(Str->Option Value)->Prop):Prop:=
 ∀(i:Nat) (v:Value) m1 m2 g1 h1 c Q',P i v g1->Sub g g1->Fv Γ g1 m2 (c::l) h1->I i g1 m1->St m1 x v m2->(∀m3 g2 h2,Sub g1 g2->Fv Γ g2 m3 (c::l) h2->I (i+1) g2 m3->Q' .next h2)->(∀u h2,Q (.ret u) h2->Q' (.ret u) h2)->Wp Γ.A (execs body Γ.env) Q' (λζ ζ=>False) h1
theorem oy{x:Str}{p:Pos}{iter:Expr}{body:List Stmt}{qs:List (Int×Int)}{Q:Flow->Heap->Prop}(I:Nat->Heap->(Str->Option Value)->Prop)(C:Co Γ r ns gs cs)(F:Fv Γ g m l h)(y:Px Γ m l g iter (.f qs))(hx:Gs ns x)(i0:∀g1,Sub g g1->I 0 g1 m)
  (turn:Tr Γ l g x body Q (λi v g1=>∃q,qs[i]? =some q/\aW g1 v (.inr q)) I)
  (done:∀m1 g0 g1 h1,Sub g g0->Sub g0 g1->Fv Γ g1 m1 l h1->I qs.length g0 m1->Q .next h1)
  (hs:∀x,foldedSetIterable iter Γ.env x=pure x:=by intro _;rfl):Wp Γ.A (exec (.For (.Name x p) iter body [] pos) Γ.env) Q E h:=by
 refine lG (E₁:=λζ ζ=>False) Γ.ρ Γ.L C.rm.hd (y.go _ _ g h (Sub.refl _) F λv g2 h2 S2 F2 q=>?_) (λe h (q:False)=>q.elim) hs
 refine fv q λa xs ak hl rq=>?_
 clear q
 obtain rfl:=ak
 refine⟨xs.length,_,λi g1 m1 l1=>l1=l/\Sub g2 g1/\I i g1 m1,g2,m,l,F2,Src.list hl,⟨rfl,Sub.refl _,i0 g2 S2⟩,?_,?_⟩
 ·rintro i v g1 m1 l1 h1 it q hi hv ⟨rfl,S1,hI⟩ F1
  refine aY (aA C F1 hx λm2 h' F3 M=>?_)
  refine aU (rq.at i v hv) λqq eq pq=>?_
  exact turn i v m1 m2 g1 h' (it,q) _ ⟨qq,eq,pq.up S1.aj⟩ (S2.trans S1) F3 hI M (λm3 g4 h4 S4 F4 Mr=>⟨g4,m3,l1,F4,S4,rfl,S1.trans S4,Mr⟩) λu h4 z=>z
 ·rintro g1 m1 l1 h1 g3 ⟨rfl,S1,hI⟩ S3 F3
  replace hI:=rq.len▸hI
  exact done m1 g1 g3 h1 (S2.trans S1) S3 F3 hI
theorem lU{x y:Str}{p q eJ p':Pos}{k1 k2:Nat}{Q:Flow->Heap->Prop}(C:Co Γ r ns gs cs)(F:Fv Γ g m l h)(x1:Px Γ m l g e s)(x2:Px Γ m l g e' t)(k:∀v1 v2 g' h',Sub g g'->Fv Γ g' m l h'->s.is v1 g'->t.is v2 g'->Wp Γ.A (storeName Γ.env x v1) (λζ h2=>Wp Γ.A (storeName Γ.env y v2) (λζ=>Q .next) E h2) E h')
  (hs:swapsWithSole [.Tuple [.Name x p,.Name y q] k1 eJ] (.Tuple [e,e'] k2 p') pos.line Γ.env=pure false)(hw:swappedStores [.Tuple [.Name x p,.Name y q] k1 eJ] (.Tuple [e,e'] k2 p') Γ.env=pure none)(h1:starEach [e,e'] Γ.env=(false,eval e Γ.env)::starEach [e'] Γ.env:=by rfl)(h2:starEach [e'] Γ.env=(false,eval e' Γ.env)::starEach [] Γ.env:=by rfl):Wp Γ.A (exec (.Assign [.Tuple [.Name x p,.Name y q] k1 eJ] (.Tuple [e,e'] k2 p') pos) Γ.env) Q E h:=by
 refine jd (cK ((Pa.cons x1 (Pa.cons x2 Pa.nil h2) h1).go p' _ _ g h (Sub.refl _) F λvs g2 h3 S2 F2 a=>?_)) hs hw
 refine fv (kA a) λv1 v2 ak q1 q2=>?_
 obtain rfl:=ak
 refine bh F2 (by show 2<=1000;decide) λb g3 h4 S3 T3 F3=>?_
 refine eK C.rm.hd F3 (T3.up F3.keep.aj) (by k_extra "R") (by k_extra "R") λg4 h5 S4 F4=>?_
 show Wp Γ.A (assignInOrder [assign (.Name x p) Γ.env,assign (.Name y q) Γ.env] [v1,v2]) _ E h5
 refine cL (aY ?_)
 refine(k v1 v2 g4 h5 ((S2.trans S3).trans S4) F4 (Sp.up _ (S3.trans S4) q1) (Sp.up _ (S3.trans S4) q2)).mono (λζ h6 z=>?_) λζ ζ z=>z
 exact cL (aY (z.mono (λζ h7 y=>eM y) λζ ζ z=>z))
theorem lV{x y:Str}{p q eJ p':Pos}{k1 k2:Nat}{Q:Flow->Heap->Prop}(C:Co Γ r ns gs cs)(F:Fv Γ g m l h)(x1:Px Γ m l g e s)(x2:Px Γ m l g e' t)(k:∀v1 v2 g' h',Sub g g'->Fv Γ g' m l h'->s.is v1 g'->t.is v2 g'->Wp Γ.A (storeName Γ.env y v2) (λζ h2=>Wp Γ.A (storeName Γ.env x v1) (λζ=>Q .next) E h2) E h')
  (hs:swapsWithSole [.Tuple [.Name x p,.Name y q] k1 eJ] (.Tuple [e,e'] k2 p') pos.line Γ.env=pure false)(hw:swappedStores [.Tuple [.Name x p,.Name y q] k1 eJ] (.Tuple [e,e'] k2 p') Γ.env=pure (some [x,y]))(h1:starEach [e,e'] Γ.env=(false,eval e Γ.env)::starEach [e'] Γ.env:=by rfl)(h2:starEach [e'] Γ.env=(false,eval e' Γ.env)::starEach [] Γ.env:=by rfl):Wp Γ.A (exec (.Assign [.Tuple [.Name x p,.Name y q] k1 eJ] (.Tuple [e,e'] k2 p') pos) Γ.env) Q E h:=by
 refine je (cK ((Pa.cons x1 (Pa.cons x2 Pa.nil h2) h1).go p' _ _ g h (Sub.refl _) F λvs g2 h3 S2 F2 a=>?_)) hs hw
 refine fv (kA a) λv1 v2 ak q1 q2=>?_
 obtain rfl:=ak
 refine bh F2 (by show 2<=1000;decide) λb g3 h4 S3 T3 F3=>?_
 refine kJ C.rm.hd F3 (T3.up F3.keep.aj) rfl λg4 h5 S4 F4=>?_
 refine sE (cL (kK ?_))
 refine(k v1 v2 g4 h5 ((S2.trans S3).trans S4) F4 (Sp.up _ (S3.trans S4) q1) (Sp.up _ (S3.trans S4) q2)).mono (λζ h6 z=>?_) λζ ζ z=>z
 exact cL (kK (z.mono (λζ h7 y=>eM y) λζ ζ z=>z))
theorem dC{x:Str}{c:Addr}{u:Option Value}{v:Value}{Q:Unit->Heap->Prop}(C:Co Γ r ns gs cs)(F:Fv Γ g m l h)(hm:Kv cs x c)(up:dA c (Ce u) (Ce (some v)) l l')(k:∀h',Fv Γ g m l' h'->Q () h'):Wp Γ.A (storeName Γ.env x v) Q E h:=
 Er C.ev.kind C.ec hm.mem F up k
theorem Px.from{xs:List Value}{i:Nat}{p:Pos}(x:Px Γ m l g e (.l xs))(y:Px Γ m l g e' (.i (i:Int)))(hz:xs.length<=10000)(ht:∀o r,letTemporaryGo e o r=pure ():=by intro _ _;rfl):Px Γ m l g (.Subscript e (.Slice (some e') none none p) pos) (.l (xs.drop i)):=
 ⟨λE Q g1 h S F q=>qr (ρ:=Γ.ρ) (L:=Γ.L) (Px.two x y S F λu v g2 h2 S2 F2 p1 p2=>by
  refine aU p1 λa ak hl=>?_
  clear p1
  obtain rfl:=ak
  refine aP p2 λt ak=>?_
  clear p2
  obtain rfl:=ak
  exact⟨a,xs,i,t,g2,m,l,rfl,rfl,F2,hl.up F2.keep,hz,λb g3 h3 S3 E7 F3=>q _ g3 h3 (S2.trans S3) F3 ⟨b,rfl,E7⟩⟩) ht⟩
theorem Px.rev{xs:List Value}{p:Pos}(x:Px Γ m l g e (.l xs))(y:Px Γ m l g e' (.i (-1)))(hz:xs.length<=10000)(ht:∀o r,letTemporaryGo e o r=pure ():=by intro _ _;rfl):Px Γ m l g (.Subscript e (.Slice none none (some e') p) pos) (.l xs.reverse):=
 ⟨λE Q g1 h S F q=>tD (ρ:=Γ.ρ) (L:=Γ.L) (Px.two x y S F λu v g2 h2 S2 F2 p1 p2=>by
  refine aU p1 λa ak hl=>?_
  clear p1
  obtain rfl:=ak
  refine aP p2 λt ak=>?_
  clear p2
  obtain rfl:=ak
  exact⟨a,xs,t,g2,m,l,rfl,rfl,F2,hl.up F2.keep,hz,λb g3 h3 S3 E7 F3=>q _ g3 h3 (S2.trans S3) F3 ⟨b,rfl,E7⟩⟩) ht⟩
theorem Px.toS{x:Str}{t:Tok}(a:Px Γ m l g e (.v (.str x t))):Px Γ m l g e (.s x):=a.mono λv ζ ζ q=>⟨t,q⟩
theorem Kc.uP{a:Addr}{bs:List Bool}(hA:Rm A 0)(hl:Ls g a (bs.map .bool)):Kc A .NotIn (.v (.bool false)) (.v (.ref a)) (bs.all id) g:=⟨λE Q x y h S p q k=>by
 obtain rfl:x=_:=p
 obtain rfl:y=_:=q
 exact vZ hA (hl.up S) k⟩
end
theorem Px.lu{Γ:Cx}{m:Str->Option Value}{l:List Cell}{g:Heap}{pos:Pos}{n a:Int}{k':Nat}(h:n=a):Px Γ m l g (.Constant (.int n) k' pos) (.i a):=h▸Px.int
section
variable{A:Around}{h g:Heap}{R:Result->Heap->Prop}{k:dg}
theorem wh{x dx:Addr}{v:Value}(X:Gr [] g h [(dx,So w.params [])])(G:Gd g)(e:g.get? x=some (instObj 732 dx))(hA:Rm A 1)
  (K:∀h',Step [] [(dx,So w.params [])] h [(dx,So w.params [(U "bank",v)])] h'->R (.ok (.ret .none)) h'):Cd A (.call (.ref 654) ⟨[.ref x,v],[]⟩) R h:=by
 refine aw (ps:=[U "self",U "bank"]) (rest:=[]) (ns:=[U "self",U "bank"]) (gs:=[]) (vs:=[some (.ref x),some v]) (r:=0) X G hA (ie G) (ig G) rfl rfl rfl rfl rfl (by decide +kernel) λL g1 h1 env A1 hE bS hr O S F=>?_
 refine au ?_
 refine aE ?_ (by k_extra "R")
 k_extra "T"
 refine mJ (al:=[]) (l₀:=[]) (l₁:=[]) (by k_extra "u") F (F.keep _ _ (S _ _ e)) lE (by decide) (mI _) (by decide) λh' F'=>?_
 k_extra "T"
 exact dI (K _ (X.done F' (by k_extra "q")))
inductive Sw(ρ:List (Addr×Obj))(g:Heap)(L:Addr)(m:Str->Option Value)(l:List Cell)(h:Heap)(a:Addr)(p:Obj->Prop):Prop
 |mk (g':Heap) (s:Sub g g') (k:Gt g' a p) (F:Fx ρ g' L m l h)
theorem Fx.fX{ρ:List (Addr×Obj)}{L:Addr}{m:Str->Option Value}{l:List Cell}{a:Addr}{p:Obj->Prop}(F:Fx ρ g L m ((a,p)::l) h):Sw ρ g L m l h a p:=by
 obtain⟨g',S,kk,F'⟩:=Fx.weak (l':=l) F (.cons _ (List.Sublist.refl _))
 have nd:=F.own.nd
 exact⟨g',S,kk (a,p) List.mem_cons_self (List.nodup_cons.mp nd).1,F'⟩
theorem Px.eO{Γ:Cx}{m:Str->Option Value}{l:List Cell}{r:Nat}{ns gs:List Str}{cs:List (Str×Addr)}{e:Expr}{p pos:Pos}(C:Co Γ r ns gs cs)(G:Gd g)(hr:3<=r)(hx:Gs gs (U "NumberTerms"))(x:Px Γ m l g e (.v (.ref k.self)))
  (he:eval (.Call (.Name (U "NumberTerms") p) [e] [] pos) Γ.env=(do callWith pos (<-eval (.Name (U "NumberTerms") p) Γ.env) [] (backTo pos (starEach [e] Γ.env)) (backToKw pos (keywordEach [] Γ.env))):=by rfl)
  (hs:starEach [e] Γ.env=(false,eval e Γ.env)::starEach [] Γ.env:=by rfl):Px Γ m l g (.Call (.Name (U "NumberTerms") p) [e] [] pos) (.nt w.params k.self):=
 ⟨λE Q g1 h S F q=>bw ((Px.glob C G hx (by k_extra "a")).go _ _ g1 h S F λv g2 h2 S2 F2 e2=>by
  cases e2
  refine vQ (by decide) ((Pa.cons x Pa.nil hs).go pos _ _ g2 h2 (S.trans S2) F2 λvs g3 h3 S3 F3 b=>⟨(G.up ((S.trans S2).trans S3)).up F3.keep,?_⟩) hs
  cases b with|cons b1 b2=>
  cases b2
  cases b1
  have G3:=G.up ((S.trans S2).trans S3)
  refine zj (fI:=654) (by decide) F3 G3 λx dx g4 h4 S4 e4 F4=>?_
  obtain⟨G5,x5,S5⟩:=Fx.gr (l₀:=[]) (l:=[(dx,So w.params [])]) (l₁:=l) F4
  refine wh x5 ((G3.up S4).up S5) (S5 _ _ e4) ((C.rm.less hr).makes.less (by decide)) λh5 st=>⟨rfl,?_⟩
  obtain⟨g6,S6,F6⟩:=Fx.ja (l₀:=[]) (l:=[(dx,So w.params [])]) (l₁:=l) F4 st
  obtain⟨g7,S7,⟨o,eo,po⟩,F7⟩:=Fx.fX F6
  exact q _ g7 h5 ((S2.trans S3).trans ((S4.trans S6).trans S7)) F7 ⟨x,rfl,dx,_,o,S7 _ _ (S6 _ _ e4),lE,eo,po⟩) he⟩
end
theorem Co.less{Γ:Cx}{r n:Nat}{ns gs:List Str}{cs:List (Str×Addr)}(C:Co Γ r ns gs cs)(h:n<=r):Rm Γ.A n:=C.rm.less h
theorem aW.lf{g h:Heap}{v:Value}{u:PV}(x:aW g v u)(s:Sub g h):aW h v u:=x.up s.aj
theorem aD.pv{g:Heap}{v:Value}{q:Int×Int}(x:aD g v (.inr q)):aW g v (.inr q):=x
structure Wf(W:WA)(b:BS)(l:List Cell)(g:Heap):Prop where
 wo:Wo W g
 d4:dS W.k
 vY:W.k.al.lookup (U "fun_names")=some (.ref W.fn)
 fn:Fn W.fn g
 qw:W.k.al.lookup (U "sort_names")=some (.ref W.sn)
 sn:Sn g W.sn
 bk:Bk W.k b.B b.ops b.args b.sorts b.ae b.xs g
 mem:∀c∈b.l W.k,c∈l
 len:b.B.length<=4900
 e0:Ext bC b.B
section
variable{W:WA}{Γ:Cx}{A:Around}{b:BS}{m:Str->Option Value}{l:List Cell}{g h:Heap}{e:Expr}{pos:Pos}
theorem Wf.lf(x:Wf W b l g)(S:Sub g h):Wf W b l h:=⟨x.wo.up S,x.d4,x.vY,x.fn.up S,x.qw,let⟨p,q,r,z⟩:=x.sn;⟨p,q,r,z.up S⟩,x.bk.lf S,x.mem,x.len,x.e0⟩
theorem Wf.bf(x:Wf W b l g):Bf W.k b l g:=⟨x.wo.gd,x.wo.inst,x.d4,x.bk,x.mem,by have:=x.len;k_extra "z"⟩
theorem Wf.gd(x:Wf W b l g):Gd g:=x.wo.gd
theorem Wf.wd(x:Wf W b l g):Dd (strKind PW w) g W.wd [(U "bank",.ref W.k.self),(U "names",.ref W.nd)]:=x.wo.fW
theorem Wf.rd(x:Wf W b l g){ρ:List (Addr×Obj)}{L:Addr}{g1:Heap}(S:Sub g g1)(F:Fx ρ g1 L m l h):Rd W b.B b.ops b.args b.ae h:=
 ⟨(x.wo.up S).up F.keep,⟨b.sorts,((x.bk.lf S).lf F.keep).rows⟩,x.bf.cell F List.mem_cons_self,x.bf.cell F (.tail _ (.head _)),x.bf.cell F (.tail _ (.tail _ (.tail _ (.head _)))),(x.fn.up S).up F.keep,by have:=x.len;k_extra "z"⟩
theorem Sx{s t u:Sp}{g:Heap}{vs:List Value}(x:Ar g [s,t,u] vs):∃a b c,vs=[a,b,c]/\s.is a g/\t.is b g/\u.is c g:=by
 cases x with|cons p x=>cases x with|cons q x=>cases x with|cons z x=>cases x;exact⟨_,_,_,rfl,p,q,z⟩
theorem E8{va:Value}{i:Nat}{t:Tok}{k:dg}(x:Bf k b l g)(hA:Rm A 1)(e:b.args[i]? =some va)(hi:i<b.B.length):Qc A 224 [.v (.ref k.self),.v (.int (i:Int) t)] (.v va) g l:=
 Qc.flat rfl λR ρ L m g1 h vs S F a kk=>by
  refine fv (kA a) λζ ζ ak p q=>?_
  obtain rfl:=ak
  cases p;cases q
  have:=x.len
  exact Bz hA ((x.gd.up S).up F.keep) ((x.inst.up S).up F.keep) x.d4 (x.cell F (.tail _ (.head _))) e (by k_extra "z") λh' st=>kk _ h' st rfl
theorem BW{i f:Nat}{t:Tok}{r:Row}{k:dg}(x:Bf k b l g)(hA:Rm A 1)(e:b.B[i]? =some r)(hd:r.2.2.2= .inl (f:Int)):Qc A 238 [.v (.ref k.self),.v (.int (i:Int) t)] (.i (f:Int)) g l:=
 Qc.flat rfl λR ρ L m g1 h vs S F a kk=>by
  refine fv (kA a) λζ ζ ak p q=>?_
  obtain rfl:=ak
  cases p;cases q
  have hi:i<b.B.length:=(List.getElem?_eq_some_iff.mp e).1
  have:=x.len
  obtain⟨to,ts,va,vd,e1,e2,e3,e4,ra,rd⟩:=x.bk.rows.row e
  replace rd:=hd▸rd
  refine aP (id rd) λtd ak=>?_
  obtain rfl:=ak
  exact iS hA ((x.gd.up S).up F.keep) ((x.inst.up S).up F.keep) x.d4 (x.cell F (.tail _ (.tail _ (.tail _ (.head _))))) e4 (by k_extra "z") λh' st=>kk _ h' st ⟨td,rfl⟩
theorem IF{f:Nat}{z:Str}(x:Wf W b l g)(hA:Rm A 1)(e:dQ[f]? =some z):Qc A 189 [.v (.ref W.k.self),.i (f:Int)] (.s z) g l:=
 Qc.flat rfl λR ρ L m g1 h vs S F a kk=>by
  obtain⟨ζ,ζ,rfl,p,⟨t,rfl⟩⟩:=kA a
  cases p
  exact tG hA ((x.wo.up S).up F.keep) x.vY ((x.fn.up S).up F.keep) e λt h' st=>kk _ h' st ⟨t,rfl⟩
theorem zK{p q:Int×Int}{n:Nat}(G:Gd g)(hA:Rm A 1)(hp:aK n p)(hq:aK n q)(hn:n+n<=134217728):Qc A 778 [.p (.inr p),.p (.inr q)] (.v (.bool (cq p q))) g l:=
 Qc.flat rfl λR ρ L m g1 h vs S F a kk=>by
  obtain⟨ζ,ζ,rfl,⟨pa,ta,tb,rfl,E4⟩,⟨qa,tc,td,rfl,E5⟩⟩:=kA a
  exact tC hA ((G.up S).up F.keep) (E4.up F.keep.aj) (E5.up F.keep.aj) hp.1 hp.2.1 hq.1 hq.2.1 hn λh' st=>kk _ h' st rfl
theorem BX{p q:Int×Int}{n:Nat}(G:Gd g)(hA:Rm A 1)(hp:aK n p)(hq:aK n q)(hn:n+n<=134217728):Qc A 771 [.p (.inr p),.p (.inr q)] (.p (.inr (p.1*q.2+q.1*p.2,p.2*q.2))) g l:=
 Qc.flat rfl λR ρ L m g1 h vs S F a kk=>by
  obtain⟨ζ,ζ,rfl,⟨pa,ta,tb,rfl,E4⟩,⟨qa,tc,td,rfl,E5⟩⟩:=kA a
  exact BO hA ((G.up S).up F.keep) (E4.up F.keep.aj) (E5.up F.keep.aj) hp.1 hp.2.1 hq.1 hq.2.1 hn λr t u h' st hr=>kk _ h' st ⟨r,t,u,rfl,hr⟩
theorem Px.point{pt:Pt}{pd:Addr}{z:Str}{v:PV}{e':Expr}(C:eH Γ.ρ)(x:Px Γ m l g e (.v (.ref pd)))(P:Po pt pd g)(y:Px Γ m l g e' (.s z))(hz:pt.get z=some v)(hs:∀t,subscripted e' false (.ref pd) (.str z t)=operate [.ref pd,.str z t] (getItem (.ref pd) (.str z t))):Px Γ m l g (.Subscript e e' pos) (.p v):=
 ⟨λE Q g1 h S F q=>iH (Px.two x y S F λa c g2 h2 S2 F2 p1 p2=>by
  cases p1
  refine aP p2 λt ak=>?_
  clear p2
  obtain rfl:=ak
  exact BU (P.up (S.trans (S2.trans F2.keep))) hz (λvv hv=>q vv g2 h2 S2 F2 (hv.up (F2.aj C))) (hs t))⟩
noncomputable abbrev Pu:List Str:=[U "t",U "bank",U "kind",U "some",U "one",U "found",U "total"]
noncomputable abbrev Pw:List Str:=[U "_law_worth",U "_law_less",U "_law_added"]
structure Wq(W:WA)(b:BS)(pt:Pt)(pd:Addr)(i:Nat)(r:Row)(n:Nat)(s:Sp)(R:Result->Heap->Prop)(Γ:Cx)(l:List Cell)(m:Str->Option Value)(t to:Tok)(aa:Addr)(qB:List Value)(g:Heap):Prop where
 C:Co Γ n Pu Pw [(U "point",Γ.L+1+1),(U "world",Γ.L+1)]
 E:Γ.env=callEnvC (match ny.data with| .func f=>f|_=>default) Γ.L 783
 X:Wf W b l g
 P:Po pt pd g
 kw:Ck g (Γ.L+1) (.ref W.wd)
 kp:Ck g (Γ.L+1+1) (.ref pd)
 ps:Ps m [(U "t",.int (i:Int) t),(U "bank",.ref W.k.self),(U "kind",.str r.1 to),(U "some",.ref aa)]
 ta:Tp g aa qB
 ha:IntsAre qB r.2.1
 e:b.B[i]? =some r
 fin:∀v m' g' h',Sub g g'->Fv Γ g' m' l h'->s.is v g'->R (.ok (.ret v)) h'
def Wc(W:WA)(b:BS)(pt:Pt)(pd:Addr)(n j:Nat)(u:PV):Prop:=∀{A:Around} {g:Heap} {l:List Cell} {t:Tok},Wf W b l g->Po pt pd g->Rm A n->Qc A 783 [.v (.ref W.wd),.v (.int (j:Int) t),.v (.ref pd)] (.p u) g l
section
variable{pt:Pt}{pd:Addr}{i n:Nat}{r:Row}{s:Sp}{v:PV}
theorem eV(x:Wf W b l g)(P:Po pt pd g)(hA:Rm A (n+1))(hn:3<=n)(e:b.B[i]? =some r){t:Tok}(fl:s.flat=true)
  (k:∀{R Γ m to aa qB g' h'},Wq W b pt pd i r n s R Γ l m t to aa qB g'->Fv Γ g' m l h'->Wp Γ.A (execs ((cD (st 29)).drop 2) Γ.env) (qX R) (Lv Γ.A Γ.env R) h'):Qc A 783 [.v (.ref W.wd),.v (.int (i:Int) t),.v (.ref pd)] s g l:=
 Qc.led fl λR G h vs S y a kk=>by
  refine He (Sx a) λζ ζ ζ ak p q z=>?_
  obtain rfl:=ak
  cases p;cases q;cases z
  have X:=x.lf S
  refine wg [(U "t",.int (i:Int) t)] [U "bank",U "kind",U "some",U "one",U "found",U "total"] (λn=>[(U "point",n+1),(U "world",n)]) (λn=>[(n+1,some (.ref pd)),(n,some (.ref W.wd))]) (binds:=[(U "world",.ref W.wd),(U "t",.int (i:Int) t),(U "point",.ref pd)]) (ns:=Pu) (gs:=Pw) (r:=n) y eH.nil X.gd hA (pH X.gd) (pI X.gd) rfl rfl rfl rfl (λn=>by k_extra "R") (λn=>by k_extra "R") (by kernel_rfl) (λn=>rfl) λΓ m g1 h1 eX hE bS C P1 S1 kc F=>?_
  have kp:Ck g1 (Γ.L+1+1) (.ref pd):=kc (Γ.L+1+1,some (.ref pd)) List.mem_cons_self
  have kw:Ck g1 (Γ.L+1) (.ref W.wd):=kc (Γ.L+1,some (.ref W.wd)) (List.mem_cons_of_mem _ List.mem_cons_self)
  have hi:i<b.B.length:=(List.getElem?_eq_some_iff.mp e).1
  obtain⟨to,ts,va,vd,e1,e2,e3,e4,⟨aa,qB,rfl,ta,Sz⟩,rd⟩:=x.bk.rows.row e
  refine ab λQ1 gE=>?_
  refine aH C F (by k_extra "a") (by k_extra "v") (λv2 m2 g2 h2 S2 F2 q2 M2=>?_) (by k_extra "R")
  obtain rfl:v2= .ref W.k.self:=q2
  refine gE.go ?_
  refine ab λQ2 iZ=>?_
  refine lV C F2 (by k_extra "v") (Px.jm C (by k_extra "u") (by k_extra "v") (Mt.fW (by k_extra "u") (by k_extra "a")) (by k_extra "R") (by k_extra "R") (by k_extra "A") (E8 (by k_extra "u") (by k_extra "r") e2 hi) (by k_extra "R") (by k_extra "R")) (λv3 v4 g3 h3 S3 F3 q3 q4=>?_) (by k_extra "R") (by refine hE.symm▸?_;k_extra "R") (by k_extra "R") (by k_extra "R")
  refine aP q3 λt3 ak=>?_
  clear q3
  obtain rfl:=ak
  obtain rfl:v4= .ref aa:=q4
  refine aA C F3 (by k_extra "a") λm4 h4 F4 M4=>?_
  refine aA C F4 (by k_extra "a") λm5 h5 F5 M5=>?_
  refine iZ.go ?_
  have bP:=S1.trans (S2.trans S3)
  exact k ⟨C,hE,X.lf bP,(P.up S).up bP,kw.lf (S2.trans S3),kp.lf (S2.trans S3),.cons (by k_extra "w") (.cons (by k_extra "w") (.cons (by k_extra "w") (.cons (by k_extra "w") (.nil _)))),ta.lf (S.trans bP),Sz,e,λv m' g' h' S' F' q=>kk v h' (y.d5 eX F' (bP.trans S')) (Sp.EZ _ fl F'.keep.aj q)⟩ F5
theorem IG{a b:Str}{r:Row}(h:r.1=a)(k:(a==b)=false:=by kernel_rfl):(r.1==b)=false:=h▸k
theorem wi{R:Result->Heap->Prop}{t to:Tok}{aa:Addr}{qB:List Value}{q:Int×Int}(H:Wq W b pt pd i r n (.p (.inr q)) R Γ l m t to aa qB g)(F:Fv Γ g m l h)(hn:1<=n)(hr:r.1=U "num")(hd:r.2.2.2= .inr q):Wp Γ.A (execs ((cD (st 29)).drop 2) Γ.env) (qX R) (Lv Γ.A Γ.env R) h:=by
 obtain⟨C,hE,X,P,kw,kp,ps,ta,ha,e,fin⟩:=H
 refine ab λQ1 gE=>?_
 refine b9 F (by k_extra "b") (beq_iff_eq.mpr hr) λg1 h1 S1 F1=>?_
 refine ab λQ2 iZ=>?_
 refine bR F1 (by k_extra "v") λv g2 h2 S2 F2 q2=>?_
 exact iZ.ret (gE.ret (ah (fin v m g2 h2 (S1.trans S2) F2 q2)))
theorem wj{R:Result->Heap->Prop}{t to:Tok}{aa:Addr}{qB:List Value}{f:Nat}{z:Str}(H:Wq W b pt pd i r n (.p v) R Γ l m t to aa qB g)(F:Fv Γ g m l h)(hn:1<=n)(hr:r.1=U "app")(hd:r.2.2.2= .inl (f:Int))(hf:dQ[f]? =some z)(hz:pt.get z=some v):Wp Γ.A (execs ((cD (st 29)).drop 2) Γ.env) (qX R) (Lv Γ.A Γ.env R) h:=by
 obtain⟨C,hE,X,P,kw,kp,ps,ta,ha,e,fin⟩:=H
 refine ab λQ1 gE=>?_
 refine aN F (by k_extra "b") (IG hr) λg1 h1 S1 F1=>?_
 refine aB (gE.go ?_)
 refine ab λQ2 iZ=>?_
 refine b9 F1 (by k_extra "b") (beq_iff_eq.mpr hr) λg2 h2 S2 F2=>?_
 refine ab λQ3 lZ=>?_
 refine bR F2 (Px.point C.nt (by k_extra "v") (by k_extra "u") (Px.jm C (by k_extra "u") (by k_extra "v") (Mt.fW (by k_extra "u") (by k_extra "a")) (by k_extra "R") (by k_extra "R") (Pa.cons (Px.jm C (by k_extra "u") (by k_extra "v") (Mt.fW (by k_extra "u") (by k_extra "a")) (by k_extra "R") (by k_extra "R") (by k_extra "A") (BW (by k_extra "u") (by k_extra "r") e hd) (by k_extra "R") (by k_extra "R")) Pa.nil (by k_extra "R")) (IF (X.lf (S1.trans S2)) (by k_extra "r") hf) (by k_extra "R") (by k_extra "R")) hz (by intro _;k_extra "R")) λv g3 h3 S3 F3 q3=>?_
 exact lZ.ret (iZ.ret (ah (fin v m g3 h3 (S1.trans (S2.trans S3)) F3 q3)))
theorem zL{R:Result->Heap->Prop}{t to:Tok}{aa:Addr}{qB:List Value}(H:Wq W b pt pd i r n (.p (.inl true)) R Γ l m t to aa qB g)(F:Fv Γ g m l h)(hr:r.1=U "true"):Wp Γ.A (execs ((cD (st 29)).drop 2) Γ.env) (qX R) (Lv Γ.A Γ.env R) h:=by
 obtain⟨C,hE,X,P,kw,kp,ps,ta,ha,e,fin⟩:=H
 refine ab λQ1 gE=>?_
 refine aN F (by k_extra "b") (IG hr) λg1 h1 S1 F1=>?_
 refine aB (gE.go ?_)
 refine ab λQ2 iZ=>?_
 refine aN F1 (by k_extra "b") (IG hr) λg2 h2 S2 F2=>?_
 refine aB (iZ.go ?_)
 refine ab λQ3 lZ=>?_
 refine b9 F2 (by k_extra "b") (by refine hr.symm▸?_;kernel_rfl) λg3 h3 S3 F3=>?_
 refine ab λQ4 l7=>?_
 refine bR F3 (by k_extra "v") λv g4 h4 S4 F4 q4=>?_
 exact l7.ret (lZ.ret (ah (fin v m g4 h4 (S1.trans (S2.trans (S3.trans S4))) F4 (show v= .bool true by refine(show v=_ from q4).symm▸hr.symm▸?_;rfl))))
theorem wk{R:Result->Heap->Prop}{t to:Tok}{aa:Addr}{qB:List Value}{n' c a d:Nat}{bc:Bool}(H:Wq W b pt pd i r n (.p v) R Γ l m t to aa qB g)(F:Fv Γ g m l h)(hn:n'<=n)(hr:r.1=U "ite")(jR:r.2.1=[(c:Int),(a:Int),(d:Int)])(ic:Wc W b pt pd n' c (.inl bc))(iv:Wc W b pt pd n' (if bc then a else d) v):Wp Γ.A (execs ((cD (st 29)).drop 2) Γ.env) (qX R) (Lv Γ.A Γ.env R) h:=by
 obtain⟨C,hE,X,P,kw,kp,ps,ta,ha,e,fin⟩:=H
 replace ha:=jR▸ha
 refine JR (ints3 ha) λt1 t2 t3 ak=>?_
 obtain rfl:=ak
 refine ab λQ1 gE=>?_
 refine aN F (by k_extra "b") (IG hr) λg1 h1 S1 F1=>?_
 refine aB (gE.go ?_)
 refine ab λQ2 iZ=>?_
 refine aN F1 (by k_extra "b") (IG hr) λg2 h2 S2 F2=>?_
 refine aB (iZ.go ?_)
 refine ab λQ3 lZ=>?_
 refine aN F2 (by k_extra "b") (by refine hr.symm▸?_;kernel_rfl) λg3 h3 S3 F3=>?_
 refine aB (lZ.go ?_)
 refine ab λQ4 l7=>?_
 refine b9 F3 (by k_extra "b") (beq_iff_eq.mpr hr) λg4 h4 S4 F4=>?_
 refine ab λQ5 q_=>?_
 have dy:=S1.trans (S2.trans (S3.trans S4))
 have X4:=X.lf dy
 have P4:=P.lf dy
 have Py:=ta.lf dy
 have y:∀p1 p2:Pos,Px Γ m l g4 (if bc=true then .Constant (.int 1) 0 p1 else .Constant (.int 2) 0 p2) (.i (if bc=true then 1 else 2)):=λp1 p2=>by cases bc <;> exact Px.int
 refine bR F4 (s:=.p v) (Px.fn C X4.gd (by k_extra "a") (by k_extra "a") (by k_extra "R") (by k_extra "R") (Pa.cons (by k_extra "v") (Pa.cons (s:=.v (.int ((if bc=true then a else d:Nat):Int) (if bc=true then t2 else t3))) (Px.Dx (by k_extra "v") Py (Px.ite (c:=bc) (Pb.of ((Px.fn C X4.gd (by k_extra "a") (by k_extra "a") (by k_extra "R") (by k_extra "R") (Pa.cons (by k_extra "v") (Pa.cons (s:=.v (.int (c:Int) t1)) (Px.Dx (by k_extra "v") Py Px.int rfl (by decide) (by decide) (by intro _;k_extra "R")) (by k_extra "A") (by k_extra "R")) (by k_extra "R")) (ic X4 P4 (C.rm.less hn)) (by k_extra "R") (by k_extra "R")).mono λζ ζ ζ q=>q) (by k_extra "R")) (y _ _)) (by cases bc <;> rfl) (by cases bc <;> decide) (by cases bc <;> decide) (by intro _;k_extra "R")) (by k_extra "A") (by k_extra "R")) (by k_extra "R")) (iv X4 P4 (C.rm.less hn)) (by k_extra "R") (by k_extra "R")) λv g5 h5 S5 F5 q5=>?_
 exact q_.ret (l7.ret (ah (fin v m g5 h5 (dy.trans S5) F5 q5)))
theorem Op.ff{o:Str}{us:List PV}{v:PV}(z:Op o us v):(o==U "num")=false/\(o==U "app")=false/\(o==U "true"||(o==U "false"||false))=false/\(o==U "ite")=false:=by
 cases z <;> exact⟨by kernel_rfl,by kernel_rfl,by kernel_rfl,by kernel_rfl⟩
theorem zM{g:Heap}{bs:List Bool}{ys:List Value}(x:Ar g (((bs.map (.inl:Bool->PV)).map λu=>some (Sp.p u)).filterMap id) ys):ys=bs.map .bool:=by
 induction bs generalizing ys with
 |nil=>cases x;rfl
 |cons b bs ih=>cases x with|cons p a=>rw[show _=Value.bool b from p,ih a];rfl
theorem Op.elim{o:Str}{us:List PV}{v:PV}{G:Prop}(z:Op o us v):(∀bs:List Bool,o=U "and"->us=bs.map .inl->v= .inl (bs.all id)->G)->
  (∀p q:Int×Int,(o==U "and")=false->(o==U "<="||(o==U "<"||false))=true->us=[.inr p,.inr q]->v= .inl (cq p q||(o==U "<="&&!cq q p))->G)->
  (∀p q:Int×Int,(o==U "and")=false->(o==U "<="||(o==U "<"||false))=false->us=[.inr p,.inr q]->v= .inr (if(o==U "+")=true then(p.1*q.2+q.1*p.2,p.2*q.2) else(p.1*q.1,p.2*q.2))->G)->G:=by
 induction z with
 |and bs=>exact λha _ _=>ha bs rfl rfl rfl
 |le p q=>exact λ_ hc _=>hc p q (by kernel_rfl) (by kernel_rfl) rfl rfl
 |lt p q=>exact λ_ hc _=>hc p q (by kernel_rfl) (by kernel_rfl) rfl (by rw[show(U "<"==U "<=")=false by kernel_rfl,Bool.false_and,Bool.or_false])
 |plus p q=>exact λ_ _ hs=>hs p q (by kernel_rfl) (by kernel_rfl) rfl (congrArg Sum.inr (if_pos (by rw[beq_self_eq_true])).symm)
 |times p q=>exact λ_ _ hs=>hs p q (by kernel_rfl) (by kernel_rfl) rfl (congrArg Sum.inr (if_neg (by refine(show(U "*"==U "+")=false by kernel_rfl).symm▸?_;decide)).symm)
theorem zN{R:Result->Heap->Prop}{t to:Tok}{aa:Addr}{qB:List Value}{n' k:Nat}{js:List Nat}{us:List PV}(H:Wq W b pt pd i r n (.p v) R Γ l m t to aa qB g)(F:Fv Γ g m l h)(hn:n'<=n)(uM:1<=n)(z:Op r.1 us v)(jR:r.2.1=js.map λ(j:Nat)=>(j:Int))(hl:js.length=us.length)(IH:js.length<=100)(ih:∀(n j:Nat) (u:PV),js[n]? =some j->us[n]? =some u->Wc W b pt pd n' j u)(ok:∀(n:Nat) (u:PV),us[n]? =some u->Dq k u)(hk:k+k<=134217728):Wp Γ.A (execs ((cD (st 29)).drop 2) Γ.env) (qX R) (Lv Γ.A Γ.env R) h:=by
 obtain⟨C,hE,X,P,kw,kp,ps,ta,ha,e,fin⟩:=H
 refine JQ z.ff λz1 z2 z3 z4=>?_
 replace ha:=jR▸ha
 have vY:qB.length=js.length:=(cp ha).trans (List.length_map _)
 refine ab λQ1 gE=>?_
 refine aN F (by k_extra "b") z1 λg1 h1 S1 F1=>?_
 refine aB (gE.go ?_)
 refine ab λQ2 iZ=>?_
 refine aN F1 (by k_extra "b") z2 λg2 h2 S2 F2=>?_
 refine aB (iZ.go ?_)
 refine ab λQ3 lZ=>?_
 refine aN F2 (by k_extra "b") z3 λg3 h3 S3 F3=>?_
 refine aB (lZ.go ?_)
 refine ab λQ4 l7=>?_
 refine aN F3 (by k_extra "b") z4 λg4 h4 S4 F4=>?_
 refine aB (l7.go ?_)
 refine ab λQ5 q_=>?_
 have dy:=S1.trans (S2.trans (S3.trans S4))
 clear z1 z2 z3 z4 F F1 F2 F3
 refine dj (us.map λu=>some (.p u)) C F4 (xs:=qB) (gs':=[U "_law_worth"]) (s:=.v (.ref aa)) (by k_extra "v") (by k_extra "a") (cl:=[(U "world",Γ.L+1),(U "point",Γ.L+1+1)]) (by simp) (by refine hE.symm▸?_;k_extra "R") (by refine hE.symm▸?_;k_extra "R") (by kernel_rfl) (by k_extra "z") (by refine(List.length_map ..).symm▸?_;lia) (λi v qA mc lc g5 hv Cc Mc hM S5=>?_) (λD ys g5 h5 m5 S5 F5 hD ar M5=>?_) (by intro _;rfl) (λv g' S q=>by cases q;exact Src.tup (ta.lf (dy.trans S)))
 ·refine dm (kz ha _ _ hv) λc tc ec ak=>?_
  obtain rfl:=ak
  replace ec:=List.getElem?_map▸ec
  refine aU (Option.map_eq_some_iff.mp ec) λj ej ak=>?_
  obtain rfl:=ak
  have hi:i<us.length:=by have:=(List.getElem?_eq_some_iff.mp ej).1;lia
  have eu:us[i]? =some us[i]:=List.getElem?_eq_getElem hi
  have Xc:Wf W b lc g5:=⟨(X.lf (dy.trans S5)).wo,X.d4,X.vY,X.fn.up (dy.trans S5),X.qw,(X.lf (dy.trans S5)).sn,X.bk.lf (dy.trans S5),λc hc=>hM c (X.mem c hc),X.len,X.e0⟩
  refine⟨_,by rw[List.getElem?_map,eu];rfl,.yes we.nil ?_ rfl⟩
  exact Px.fn Cc Xc.gd (by k_extra "a") (by k_extra "a") (by k_extra "R") (by k_extra "R") (Pa.cons (s:=.v (.ref W.wd)) (Px.cell Cc (by k_extra "a") (kw.lf (dy.trans S5))) (Pa.cons (s:=.v (.int (j:Int) tc)) (Px.local Cc .hd Mc) (Pa.cons (s:=.v (.ref pd)) (Px.cell Cc (by k_extra "a") (kp.lf (dy.trans S5))) Pa.nil (by k_extra "R")) (by k_extra "R")) (by k_extra "R")) (ih i j _ ej eu Xc (P.lf (dy.trans S5)) (Cc.rm.less hn)) (by k_extra "R") (by k_extra "R")
 ·have P5:Ps m5 [(U "found",.ref D),(U "t",.int (i:Int) t),(U "bank",.ref W.k.self),(U "kind",.str r.1 to),(U "some",.ref aa)]:=.cons M5.hd (ps.st M5 (by kernel_rfl))
  have X5:=X.lf (dy.trans S5)
  have BY:∀u m' g' h',Sub g5 g'->Fv Γ g' m' l h'->(Sp.p v).is u g'->R (.ok (.ret u)) h':=λu m' g' h' S F q=>fin u m' g' h' ((dy.trans S5).trans S) F q
  refine q_.go ?_
  clear gE iZ lZ l7 q_ F4 ps M5 X P kw kp ta ih fin S1 S2 S3 S4 dy S5
  refine z.elim (λbs cZ e2 ev=>?_) (λp q n1 n2 e2 ev=>?_) (λp q n1 n2 e2 ev=>?_) <;> rw[e2] at ar <;> rw[ev] at BY
  ·replace hD:=(zM ar)▸hD
   refine ab λQ6 wm=>?_
   refine b9 F5 (by k_extra "b") (beq_iff_eq.mpr cZ) λg6 h6 S6 F6=>?_
   refine ab λQ7 mW=>?_
   refine bR F6 (Px.cmp Px.bool (by k_extra "v") (Kc.uP (C.less (Nat.zero_le _)) (hD.up S6)) (by k_extra "R")) λv g7 h7 S7 F7 q7=>?_
   exact mW.ret (wm.ret (ah (BY v m5 g7 h7 (S6.trans S7) F7 q7)))
  ·have bp:aK k p:=ok 0 (.inr p) (by refine e2.symm▸?_;rfl)
   have bq:aK k q:=ok 1 (.inr q) (by refine e2.symm▸?_;rfl)
   clear ok e2 ev
   refine fv (kA ar) λy1 y2 ak p1 p2=>?_
   obtain rfl:=ak
   have p1:aW g5 y1 (.inr p):=p1
   have p2:aW g5 y2 (.inr q):=p2
   refine ab λQ6 wm=>?_
   refine aN F5 (by k_extra "b") n1 λg6 h6 S6 F6=>?_
   refine aB (wm.go ?_)
   refine ab λQ7 mW=>?_
   refine b9 F6 (by k_extra "b") n2 λg7 h7 S7 F7=>?_
   refine ab λQ8 uQ=>?_
   refine bR F7 (Px.or (Px.fn C (by k_extra "u") (by k_extra "a") (by k_extra "a") (by k_extra "R") (by k_extra "R") (by k_extra "A") (zK (p:=p) (q:=q) (by k_extra "u") (C.less uM) bp bq hk) (by k_extra "R") (by k_extra "R")) λζ=>Px.one (Px.and (by k_extra "v") λζ=>Px.one (Px.not (Px.fn C (by k_extra "u") (by k_extra "a") (by k_extra "a") (by k_extra "R") (by k_extra "R") (by k_extra "A") (zK (p:=q) (q:=p) (by k_extra "u") (C.less uM) bq bp hk) (by k_extra "R") (by k_extra "R"))))) λv g8 h8 S8 F8 q8=>?_
   exact uQ.ret (mW.ret (ah (BY v m5 g8 h8 (S6.trans (S7.trans S8)) F8 q8)))
  ·have bp:aK k p:=ok 0 (.inr p) (by refine e2.symm▸?_;rfl)
   have bq:aK k q:=ok 1 (.inr q) (by refine e2.symm▸?_;rfl)
   clear ok e2 ev
   refine fv (kA ar) λy1 y2 ak p1 p2=>?_
   obtain rfl:=ak
   have p1:aW g5 y1 (.inr p):=p1
   have p2:aW g5 y2 (.inr q):=p2
   refine ab λQ6 wm=>?_
   refine aN F5 (by k_extra "b") n1 λg6 h6 S6 F6=>?_
   refine aB (wm.go ?_)
   refine ab λQ7 mW=>?_
   refine aN F6 (by k_extra "b") n2 λg7 h7 S7 F7=>?_
   refine aB (mW.go ?_)
   refine ab λQ8 uQ=>?_
   refine aH C F7 (by k_extra "a") (by k_extra "v") (λv8 m8 g8 h8 S8 F8 q8 M8=>?_) (by k_extra "R")
   obtain rfl:v8=y1:=q8
   refine uQ.go ?_
   refine ab λQ9 zO=>?_
   have AR:=S6.trans (S7.trans S8)
   have P8:=P5.st M8 (by kernel_rfl)
   refine oy (qs:=[q]) (λi g m=>∃vt,(m (U "kind")=some (.str r.1 to)/\m (U "total")=some vt)/\aW g vt (.inr (if i=0 then p else if(r.1==U "+")=true then(p.1*q.2+q.1*p.2,p.2*q.2) else(p.1*q.1,p.2*q.2)))) C F8 ((Px.from (xs:=[v8,y2]) (i:=1) (by k_extra "v") (Px.lu rfl) (by simp) (by intro _ _;k_extra "R")).mono λv g' S ⟨a,e,hl⟩=>⟨a,_,e,hl,.cons (p2.up (AR.trans S).aj) .nil⟩) (by k_extra "a") (λg1 S=>⟨v8,⟨P8.at (by k_extra "a"),M8.hd⟩,p1.up (AR.trans S).aj⟩) ?_ ?_ (by intro _;k_extra "R")
   ·rintro i v m1 m2 g1 h1 c Q' ⟨q',eq,pq⟩ S1 F1 ⟨vt,⟨J6,J8⟩,pt⟩ M1 kn kr
    obtain rfl:i=0:=by have:=(List.getElem?_eq_some_iff.mp eq).1;simpa using this
    cases eq
    have pt:aW g1 vt (.inr p):=pt
    have J6:m2 (U "kind")=some (.str r.1 to):=M1.tl (by kernel_rfl) J6
    have J8:m2 (U "total")=some vt:=M1.tl (by kernel_rfl) J8
    have VI:m2 (U "one")=some v:=M1.hd
    refine ab λQa tK=>?_
    refine aH C F1 (by k_extra "a") (Px.ite (s:=.p (.inr (if(r.1==U "+")=true then(p.1*q.2+q.1*p.2,p.2*q.2) else(p.1*q.1,p.2*q.2)))) (c:=r.1==U "+") (by k_extra "b") ?_) (λv3 m3 g3 h3 S3 F3 q3 M3=>?_) (by k_extra "R")
    ·by_cases hb:(r.1==U "+")=true
     ·refine(if_pos hb).symm▸(if_pos hb).symm▸?_
      exact Px.fn C (by k_extra "u") (by k_extra "a") (by k_extra "a") (by k_extra "R") (by k_extra "R") (by k_extra "A") (BX (by k_extra "u") (C.less uM) bp bq hk) (by k_extra "R") (by k_extra "R")
     ·refine(if_neg hb).symm▸(if_neg hb).symm▸?_
      exact Px.pair C.nt (Px.mul (n:=k) (k:=k) (by k_extra "v") (by k_extra "v") bp.1 bq.1 hk) (Px.mul (n:=k) (k:=k) (by k_extra "v") (by k_extra "v") bp.2.1 bq.2.1 hk) (by k_extra "R") (by k_extra "R")
    ·exact tK.go (aB (kn m3 g3 h3 S3 F3 ⟨v3,⟨M3.tl (by kernel_rfl) J6,M3.hd⟩,q3⟩))
   ·rintro m1 g0 g1 h1 S0 S1 F1 ⟨vt,⟨J6,J8⟩,pt⟩
    refine zO.go ?_
    refine ab λQa tK=>?_
    refine bR F1 (Px.local C (by k_extra "a") J8) λv g2 h2 S2 F2 q2=>?_
    obtain rfl:v=vt:=q2
    exact tK.ret (ah (BY v m1 g2 h2 ((AR.trans S0).trans (S1.trans S2)) F2 (pt.up (S1.trans S2).aj)))
theorem wq{d:Nat}(wt:Wt b.B pt d i v):d<=8->Wc W b pt pd (2*d+4) i v:=by
 induction wt with
 |num h a=>exact λhd A g l t x P hA=>eV (n:=3) x P (hA.less (by k_extra "z")) (Nat.le_refl _) h rfl λH F=>wi H F (by decide) rfl rfl
 |app h a c _=>exact λhd A g l t x P hA=>eV (n:=3) x P (hA.less (by k_extra "z")) (Nat.le_refl _) h rfl λH F=>wj H F (by decide) rfl rfl a c
 |tt h=>exact λhd A g l t x P hA=>eV (n:=3) x P (hA.less (by k_extra "z")) (Nat.le_refl _) h rfl λH F=>zL H F rfl
 |@ite d _ _ _ _ _ _ _ _ h x y ix iy=>exact λhd A g l t x P hA=>eV (n:=2*d+4) x P (hA.less (by lia)) (by k_extra "z") h rfl λH F=>wk H F (Nat.le_refl _) rfl rfl (ix (by lia)) (iy (by lia))
 |@op d _ _ js us _ _ _ h a c w z ih=>exact λhd A g l t x P hA=>eV (n:=2*d+4) x P (hA.less (by lia)) (by k_extra "z") h rfl λH F=>zN (k:=wb d) H F (Nat.le_refl _) (by k_extra "z") z rfl a c (λn j u e1 e2=>ih n j u e1 e2 (by lia)) (λn u e2=>by
   have hn:n<js.length:=a▸(List.getElem?_eq_some_iff.mp e2).1
   exact(w n _ u (List.getElem?_eq_getElem hn) e2).ok) (Iu (by lia))
theorem Bw{d:Nat}{t:Tok}(x:Wf W b l g)(P:Po pt pd g)(wt:Wt b.B pt d i v)(hd:d<=8)(hA:Rm A (2*d+4)):Qc A 783 [.v (.ref W.wd),.v (.int (i:Int) t),.v (.ref pd)] (.p v) g l:=wq wt hd x P hA
end
theorem Wf.sub(x:Wf W b l g)(S:Sub g h):Wf W b (b.l W.k) h:=⟨(x.lf S).wo,x.d4,x.vY,(x.lf S).fn,x.qw,(x.lf S).sn,x.bk.lf S,λζ hc=>hc,x.len,x.e0⟩
theorem Wf.next{b':BS}{ρ:List (Addr×Obj)}{L:Addr}{g' h':Heap}{lr:List Cell}(x:Wf W b l g)(S:Sub g g')(nt:eH ρ)(F:Fx ρ g' L m (b'.l W.k++lr) h')(bk:Bk W.k b'.B b'.ops b'.args b'.sorts b'.ae b'.xs h')(e:Ext b.B b'.B)(hl:b'.B.length<=4900):Wf W b' (b'.l W.k++lr) g':=
 ⟨(x.lf S).wo,x.d4,x.vY,(x.lf S).fn,x.qw,(x.lf S).sn,bk.up (F.aj nt),λζ hc=>List.mem_append_left _ hc,hl,x.e0.trans e⟩
structure qY(pa p0 p1:Addr)(iF iG:Pt)(g:Heap):Prop where
 ls:Ls g pa [.ref p0,.ref p1]
 q0:Po iF p0 g
 q1:Po iG p1 g
 k0:n9 iF
 k1:n9 iG
theorem qY.lf{pa p0 p1:Addr}{iF iG:Pt}(x:qY pa p0 p1 iF iG g)(S:Sub g h):qY pa p0 p1 iF iG h:=⟨x.ls.up S,x.q0.up S,x.q1.up S,x.k0,x.k1⟩
theorem qY.get{pa p0 p1:Addr}{iF iG:Pt}(x:qY pa p0 p1 iF iG g){i:Nat}{v:Value}(e:[Value.ref p0,.ref p1][i]? =some v):∃p pt,v= .ref p/\Po pt p g/\n9 pt:=by
 rcases i with _|_|i
 ·cases e;exact⟨p0,iF,rfl,x.q0,x.k0⟩
 ·cases e;exact⟨p1,iG,rfl,x.q1,x.k1⟩
 ·simp at e
theorem Wt.rat{B:List Row}{pt:Pt}{d i:Nat}{q:Int×Int}(x:Wt B pt d i (.inr q))(h:d<=8):aK 20000000 q:=by
 have h1:wb d<=wb 8:=by unfold wb;exact Nat.mul_le_mul_left _ (Nat.pow_le_pow_right (by decide) h)
 replace h1:=O_▸h1
 exact aK.mono (show aK (wb d) q from x.ok) (by k_extra "z")
theorem aK.abs{n:Nat}{q:Int×Int}(x:aK n q):aK n (if q.1<0 then -q.1 else q.1,q.2):=⟨by
 show Bt n (if q.1<0 then -q.1 else q.1)
 split
 ·exact x.1.neg
 ·exact x.1,x.2.1,x.2.2⟩
end
section
variable{W:WA}{Γ:Cx}{A:Around}{E:Value->Heap->Prop}{m:Str->Option Value}{l₀ l₁ l:List Cell}{g h:Heap}{r:Nat}{cs:List (Str×Addr)}{ns gs:List Str}{e e':Expr}{s:Sp}{pos:Pos}{b:BS}{R:Result->Heap->Prop}
theorem Wf.more{l l':List Cell}(x:Wf W b l g)(h:∀c∈l,c∈l'):Wf W b l' g:=⟨x.wo,x.d4,x.vY,x.fn,x.qw,x.sn,x.bk,λc hc=>h c (x.mem c hc),x.len,x.e0⟩
theorem dk{fd cl:Addr}{n W k1:Nat}{tn ts:Tok}{s c:Int}{p p1 p2:Pos}{Q:Value->Heap->Prop}(C:Co Γ r ns gs cs)(hr:1<=r)(F:Fv Γ g m (l₀++([Fd fd cl n tn s ts]++l₁)) h)(G:Gd g)(hc:Cs g cl)(hx:Gs gs (U "_law_draw"))(hf:Gs ns (U "feed"))(hm:m (U "feed")=some (.ref fd))(hn:n<=10000)(hW:c=(W:Int))(h0:0<W)
  (k:∀(v:Nat) t cR g' h',v<W->Sub g g'->Fv Γ g' m (l₀++([Fd fd cl (n+1) cR s ts]++l₁)) h'->Q (.int (v:Int) t) h')
  (he:eval (.Call (.Name (U "_law_draw") p) [.Name (U "feed") p1,.Constant (.int c) k1 p2] [] pos) Γ.env=(do callWith pos (<-eval (.Name (U "_law_draw") p) Γ.env) [] (backTo pos (starEach [.Name (U "feed") p1,.Constant (.int c) k1 p2] Γ.env)) (backToKw pos (keywordEach [] Γ.env))):=by rfl):Wp Γ.A (eval (.Call (.Name (U "_law_draw") p) [.Name (U "feed") p1,.Constant (.int c) k1 p2] [] pos) Γ.env) Q E h:=by
 refine lT C F G hx (f:=743) (by k_extra "a") (by k_extra "R") (by k_extra "R") (Pa.cons (Px.local C hf hm) (Pa.cons (Px.lu hW) Pa.nil (by k_extra "R")) (by k_extra "R")) (λg1 h1 S1 F1 tw=>?_) he (by k_extra "R")
 obtain⟨G2,x2,S2⟩:=Fx.gr F1
 refine fv ((hc.lf S1).ls) λvs cs hl hi hz=>?_
 refine Wp.call (zD x2 ((G.up S1).up S2) (hl.up S2) hi hz hn h0 (C.rm.less hr) λv t cR h' hv st=>?_)
 obtain⟨g3,S3,F3⟩:=Fx.ja F1 st
 exact k v t cR g3 h' hv (S1.trans S3) F3
theorem Wf.to(x:Wf W b l g)(S:Sub g g')(bk:Bk W.k b'.B b'.ops b'.args b'.sorts b'.ae b'.xs g')(e:Ext b.B b'.B)(hl:b'.B.length<=4900):Wf W b' (b'.l W.k) g':=⟨(x.lf S).wo,x.d4,x.vY,(x.lf S).fn,x.qw,(x.lf S).sn,bk,λζ hc=>hc,hl,x.e0.trans e⟩
theorem E9{Q:Value->Heap->Prop}(C:Co Γ r ns gs cs)(F:Fv Γ g m l h)(G:Gd g){x:Str}{f:Addr}{ob:Obj}{fd:FuncData}{e1 e2 e3:Expr}{s1 s2:Sp}{p:Pos}(hx:Gs gs x)(hv:Kv kR x (.ref f))(hK:(K w.params)[C6 f]? =some (f,ob))(hd:ob.data= .func fd)(x1:Px Γ m l g e1 s1)(x2:Px Γ m l g e2 s2)
  (k:∀g' h',Sub g g'->Fv Γ g' m l h'->s1.all g' λv1=>s2.all g' λv2=>Wp Γ.A (eval e3 Γ.env) (λv3 h2=>Gd h2/\Wp Γ.A (call (.ref f) [v1,v2,v3]) Q E h2) E h')
  (he:eval (.Call (.Name x p) [e1,e2,e3] [] pos) Γ.env=(do callWith pos (<-eval (.Name x p) Γ.env) [] (backTo pos (starEach [e1,e2,e3] Γ.env)) (backToKw pos (keywordEach [] Γ.env))))
  (h1:starEach [e1,e2,e3] Γ.env=(false,eval e1 Γ.env)::starEach [e2,e3] Γ.env)(h2:starEach [e2,e3] Γ.env=(false,eval e2 Γ.env)::starEach [e3] Γ.env)(h3:starEach [e3] Γ.env=(false,eval e3 Γ.env)::starEach [] Γ.env):Wp Γ.A (eval (.Call (.Name x p) [e1,e2,e3] [] pos) Γ.env) Q E h:=
 bw ((Px.glob C G hx hv).go _ _ g h (Sub.refl _) F λv ga ha Sa Fa e=>by
  cases e
  exact b_ hK hd (az (x1.go _ _ ga ha Sa Fa λv1 gb hb Sb Fb q1=>az (x2.go _ _ gb hb (Sa.trans Sb) Fb λv2 gc hc Sc Fc q2=>az ((Sp.ot (Sp.ot (k gc hc (Sa.trans (Sb.trans Sc)) Fc) (Sp.up _ Sc q1)) q2).mono (λζ ζ q=>aC q) λζ ζ q=>q) h3) h2) h1) h1) he
theorem Px.names{kd:Int}(x:Px Γ m l g e (.v (.ref W.nd)))(d:Dd (intKind PW w) g W.nd [(0,.ref W.l0),(1,.ref W.l1),(2,.ref W.l2)])(hk:fu kd)(y:Px Γ m l g e' (.i kd))(hs:∀t,subscripted e' false (.ref W.nd) (.int kd t)=operate [.ref W.nd,.int kd t] (getItem (.ref W.nd) (.int kd t))):Px Γ m l g (.Subscript e e' pos) (.v (.ref (W.nl kd))):=
 ⟨λE Q g1 h S F q=>iH (Px.two x y S F λa c g2 h2 S2 F2 p1 p2=>by
  cases p1
  refine aP p2 λt ak=>?_
  clear p2
  obtain rfl:=ak
  exact BR (d.up (S.trans (S2.trans F2.keep))) hk (q _ g2 h2 S2 F2 rfl) (hs t))⟩
theorem zP{kd a c:Int}{p:Addr}{ta tb tk:Tok}(x:Gr [] g h (b.l W.k))(X:Wf W b (b.l W.k) g)(hA:Rm A 4)(hp:Tp g p [.int a ta,.int c tb])(hk:kd=1\/kd=2)(Ic:kd=1->c=1)(hc:1<=c)(bc:Bt 9000 c)
  (K:∀(i:Nat) t (b':BS) h',Step [] (b.l W.k) h (b'.l W.k) h'->Bk W.k b'.B b'.ops b'.args b'.sorts b'.ae b'.xs h'->Mk b.B (U "num",[],kd,.inr (cm a c,bU a c)) i b'.B->R (.ok (.ret (.int i t))) h'):
  Cd A (.call (.ref 757) ⟨[.ref W.wd,.int kd tk,.ref p],[]⟩) R h:=by
 refine gD [(U "world",.ref W.wd),(U "kind",.int kd tk),(U "pair",.ref p)] [] (ns:=[U "world",U "kind",U "pair"]) (gs:=[U "ratio"]) (r:=3) x eH.nil X.gd hA (nN X.gd) (nO X.gd) rfl rfl rfl rfl (by decide +kernel) λΓ m g1 h1 eX hE bS C P S F=>?_
 refine ab λQ1 gE=>?_
 have HQ:aW g1 (.ref p) (.inr (a,c)):=⟨p,ta,tb,rfl,hp.up S.aj⟩
 have X1:=X.lf S
 have ip:c≠0:=by lia
 refine bJ (di C F X1.gd (f:=446) (s:=.v (.ref W.k.self)) (by k_extra "v") (λv g2 S2 q=>⟨_,q,Mt.fW (by k_extra "u") (by k_extra "a")⟩) (by k_extra "R") (by k_extra "R") (Pa.cons (s:=.p (.inr (cm a c,bU a c))) (by k_extra "v") (Pa.cons (s:=.v (.int kd tk)) (by k_extra "v") Pa.nil (by k_extra "R")) (by k_extra "R")) (λg2 h2 S2 F2 v1 q1=>?_) (by k_extra "R") (by k_extra "R"))
 obtain⟨G3,x3,S3⟩:=Fx.bF F2
 have X3:=X1.lf (S2.trans S3)
 refine Wp.call (jM (k:=W.k) (B:=b.B) (n:=cm a c) (d:=bU a c) x3 X3.gd X3.wo.inst X.d4 ((X1.bk.lf S2).lf F2.keep) (C.less (by decide)) (Nat.le_trans X.len (by decide)) (aD.up (show aD g2 v1 (.inr (cm a c,bU a c)) from q1) F2.keep.aj) hk (λe=>by refine(Ic e).symm▸?_;exact lM a) λj t B' av ai af ag aO h' st b' mk=>?_)
 obtain⟨g6,S6,F6⟩:=Fx.aT F2 st
 exact gE.ret (ah (K j t ⟨B',av,ai,af,ag,aO⟩ h' (x.d5 eX F6 (S.trans (S2.trans S6))) b' mk))
def zQ(W:WA)(fd cl:Addr)(dp:Nat):Prop:=∀{A:Around} {h g:Heap} {R:Result->Heap->Prop} {b:BS} {n:Nat} {tn ts tk td:Tok} {s kd:Int}
  (x:Gr [] g h (b.l W.k++[Fd fd cl n tn s ts])) (X:Wf W b (b.l W.k) g) (D:Cs g cl) (hA:Rm A (5+dp)) (hz:b.B.length<=4890) (hn:n+dp<=8001) (hk:kd=1\/kd=2)
  (K:∀(j:Nat) t (b':BS) n' cR h',Step [] (b.l W.k++[Fd fd cl n tn s ts]) h (b'.l W.k++[Fd fd cl n' cR s ts]) h'->Bk W.k b'.B b'.ops b'.args b'.sorts b'.ae b'.xs h'->Ext b.B b'.B->b'.B.length<=b.B.length+1+3*dp->n'<=n+6+3*dp->aF b'.B (70+5*dp) dp kd j->R (.ok (.ret (.int j t))) h'),
  Cd A (.call (.ref 764) ⟨[.ref fd,.ref W.wd,.int kd tk,.int (dp:Int) td],[]⟩) R h
noncomputable abbrev SA:List Str:=[U "feed",U "world",U "kind",U "deep",U "way",U "bank",U "one"]
noncomputable abbrev SD:List Str:=[U "_law_draw",U "_law_number",U "_law_figure",U "_law_term",U "ratio"]
theorem uR{fd cl:Addr}{dp:Nat}(Pz:dp<=1)(ih:0<dp->zQ W fd cl 0):zQ W fd cl dp:=by
 intro A h g R b n tn ts tk td s kd x X D hA hz hn hk K
 have PA:fu kd:=hk.elim (λe=>.inr (.inl e)) λe=>.inr (.inr e)
 refine nE (X.wo.nm PA) λtl PB hL=>?_
 have PC:=og X.e0 (zF (v:=0) hk (by decide))
 have PD:=og X.e0 (zF (v:=1) hk (by decide))
 refine gD [(U "feed",.ref fd),(U "world",.ref W.wd),(U "kind",.int kd tk),(U "deep",.int (dp:Int) td)] [U "way",U "bank",U "one"] (ns:=SA) (gs:=SD) (r:=4+dp) x eH.nil X.gd (hA.less (by lia)) (sI X.gd) (sJ X.gd) rfl rfl rfl rfl (by decide +kernel) λΓ m g1 h1 eX hE bS C P S F=>?_
 refine ab λQ1 gE=>?_
 have uM:n+1<=8002:=by lia
 have main:∀(u:Nat) t1 Ds g2 h2,u<6->(dp=0->u<2)->Sub g1 g2->Fv Γ g2 m (b.l W.k++([Fd fd cl (n+1) Ds s ts]++[])) h2->Wp Γ.A (storeName Γ.env (U "way") (.int (u:Int) t1)) (λζ=>Q1 .next) (Lv Γ.A Γ.env R) h2:=λu t1 Ds g2 h2 hu SE S2 F2=>by
  have SS:=S.trans S2
  have X2:=X.lf SS
  have D2:=D.lf SS
  have J9:=hL.up SS
  have fin:∀(j:Nat) t (b':BS) n' cR m' g' h',Sub g2 g'->Fv Γ g' m' (b'.l W.k++[Fd fd cl n' cR s ts]) h'->Bk W.k b'.B b'.ops b'.args b'.sorts b'.ae b'.xs h'->Ext b.B b'.B->b'.B.length<=b.B.length+1+3*dp->n'<=n+6+3*dp->aF b'.B (70+5*dp) dp kd j->R (.ok (.ret (.int j t))) h':=λj t b' n' cR m' g' h' S' F'=>K j t b' n' cR h' (x.d5 eX F' (SS.trans S'))
  clear K x eX hE bS X D hL S S2 SS
  refine aA C F2 (by k_extra "a") λm3 h3 F3 M3=>gE.go ?_
  refine ab λQ2 iZ=>?_
  have P3:=P.st M3 (by kernel_rfl)
  refine aH C F3 (by k_extra "a") (by k_extra "v") (λv4 m4 g4 h4 S4 F4 q4 M4=>?_) (by k_extra "R")
  obtain rfl:v4= .ref W.k.self:=q4
  refine iZ.go ?_
  have P4:Ps m4 [(U "bank",.ref W.k.self),(U "way",.int (u:Int) t1),(U "feed",.ref fd),(U "world",.ref W.wd),(U "kind",.int kd tk),(U "deep",.int (dp:Int) td)]:=.cons M4.hd ((Ps.cons M3.hd P3).st M4 (by kernel_rfl))
  have X4:=X2.lf S4
  have D4:=D2.lf S4
  have Ms:=J9.up S4
  replace fin:=λj t b' n' cR m' g' h' (S':Sub g4 g')=>fin j t b' n' cR m' g' h' (S4.trans S')
  clear gE iZ F2 F3 M3 M4 P P3 X2 D2 J9 S4
  have Mu:∀{m l g} (e0 e1:Pos) (k0:Nat) (p1 p2 p3:Pos),Sub g4 g->Ps m [(U "world",.ref W.wd),(U "kind",.int kd tk)]->Px Γ m l g (.Subscript (.Subscript (.Name (U "world") e0) (.Constant (.str (U "names")) k0 p1) p2) (.Name (U "kind") e1) p3) (.v (.ref (W.nl kd))):=λe0 e1 k0 p1 p2 p3 S P=>Px.names (Px.key (Px.local C (by k_extra "a") (by k_extra "w")) (X4.lf S).wo.fW (by k_extra "a") (by intro _;k_extra "R")) (X4.lf S).wo.names PA (Px.o3 (Px.local C (by k_extra "a") (by k_extra "w"))) (by intro _;k_extra "R")
  refine ab λQ3 lZ=>?_
  by_cases VJ:u=0\/u=5
  ·refine b9 F4 (by k_extra "b") (by simp[bM];lia) λg5 h5 S5 F5=>?_
   refine ab λQ4 l7=>?_
   have G5:=(X4.lf S5).gd
   refine bJ (E9 (f:=757) C F5 G5 (by k_extra "a") (by k_extra "a") (by k_extra "R") (by k_extra "R") (s1:=.v (.ref W.wd)) (s2:=.v (.int kd tk)) (by k_extra "v") (by k_extra "v") (λg6 h6 S6 F6=>?_) (by k_extra "R") (by k_extra "R") (by k_extra "R") (by k_extra "R"))
   refine lT C F6 (G5.up S6) (f:=750) (by k_extra "a") (by k_extra "a") (by k_extra "R") (by k_extra "R") (Pa.cons (s:=.v (.ref fd)) (by k_extra "v") (Pa.cons (s:=.v (.int kd tk)) (by k_extra "v") Pa.nil (by k_extra "R")) (by k_extra "R")) (λg7 h7 S7 F7=>?_) (by k_extra "R") (by k_extra "R")
   obtain⟨G8,x8,S8⟩:=Fx.gr F7
   have BZ:=S5.trans (S6.trans S7)
   refine Wp.call (zE x8 ((X4.lf BZ).gd.up S8) (D4.lf (BZ.trans S8)) (by k_extra "z") (C.less (by lia)) λp a c ta tb n2 Pd h8 ha II PE EE Mv st hp=>?_)
   obtain⟨g9,S9,F9⟩:=Fx.ja F7 st
   have X9:=X4.lf (BZ.trans S9)
   refine⟨X9.gd.up F9.keep,?_⟩
   obtain⟨SH,Mw,ft⟩:=Fx.iW F9
   refine Wp.call (zP Mw (X9.lf ft) (C.less (by k_extra "z")) ((hp.up (F9.aj C.nt)).lf ft) hk EE II (Bt.mono (n:=3) (qy II PE) (by decide)) λi t b' oE st b2 mk=>?_)
   obtain⟨iU,iE,iA⟩:=Fx.gy F9 st
   exact l7.ret (lZ.ret (ah (fin i t b' n2 Pd m4 iU oE (BZ.trans (S9.trans iE)) iA b2 mk.ext (by have:=mk.len;k_extra "z") (by k_extra "z") ((EU mk (gR (by lia) EE ha (Bt.mono (n:=3) (m:=70) (qy II PE) (by decide))) (by decide)).mono (by k_extra "z") (by k_extra "z")))))
  refine aN F4 (by k_extra "b") (by simp[bM];lia) λg5 h5 S5 F5=>?_
  refine aB (lZ.go ?_)
  refine ab λQ4 l7=>?_
  by_cases VK:u=1
  ·refine b9 F5 (by k_extra "b") (by simp[bM];lia) λg6 h6 S6 F6=>?_
   refine ab λQ5 q_=>?_
   refine bJ (iH ((Mu _ _ _ _ _ _ (S5.trans S6) (.cons (by k_extra "w") (.cons (by k_extra "w") (.nil _)))).go _ _ g6 h6 (Sub.refl _) F6 λv7 g7 h7 S7 F7 q7=>?_))
   cases q7
   have X7:=X4.lf (S5.trans (S6.trans S7))
   refine dk (l₁:=[]) (W:=2) C (by lia) F7 X7.gd (D4.lf (S5.trans (S6.trans S7))) (by k_extra "a") (by k_extra "a") (by k_extra "w") (by k_extra "z") rfl (by decide) (λv8 t8 Dy g8 h8 Gz S8 F8=>?_) (by k_extra "R")
   obtain⟨tz,ez⟩:∃tz,[Value.int (nj kd:Int) tl,.int ((nj kd+1:Nat):Int) PB][((v8:Nat):Int).toNat]? =some (.int ((nj kd+v8:Nat):Int) tz):=by
    refine(Int.toNat_natCast ..).symm▸?_
    rcases v8 with _|_|v8
    ·exact⟨_,rfl⟩
    ·exact⟨_,rfl⟩
    ·lia
   have AR:=S5.trans (S6.trans (S7.trans S8))
   refine ki ((Ms.up AR).up F8.keep) (by lia) (by lia) ez ?_ (by k_extra "R")
   exact q_.ret (l7.ret (ah (fin _ _ b _ _ m4 g8 h8 AR F8 (X7.bk.lf (S8.trans F8.keep)) (.refl _) (by k_extra "z") (by lia) ((og X4.e0 (zF hk Gz)).mono (by k_extra "z") (by k_extra "z")))))
  refine aN F5 (by k_extra "b") (by simp[bM];lia) λg6 h6 S6 F6=>?_
  refine aB (l7.go ?_)
  refine ab λQ5 q_=>?_
  have Mx:dp=1:=by
   rcases Nat.eq_zero_or_pos dp with e|e
   ·have:=SE e;lia
   ·lia
  subst Mx
  refine aZ (lT C F6 (X4.lf (S5.trans S6)).gd (f:=764) (by k_extra "a") (by k_extra "a") (by k_extra "R") (by k_extra "R") (Pa.cons (s:=.v (.ref fd)) (by k_extra "v") (Pa.cons (s:=.v (.ref W.wd)) (by k_extra "v") (Pa.cons (s:=.v (.int kd tk)) (by k_extra "v") (Pa.cons (Px.lu (a:=((0:Nat):Int)) rfl) Pa.nil (by k_extra "R")) (by k_extra "R")) (by k_extra "R")) (by k_extra "R")) (λg7 h7 S7 F7 t0=>?_) (by k_extra "R") (by k_extra "R")) (by k_extra "R")
  have BZ:=S5.trans (S6.trans S7)
  obtain⟨G8,x8,S8⟩:=Fx.bF F7
  refine Wp.call (ih (by decide) (n:=n+1) x8 (X4.lf (BZ.trans S8)) (D4.lf (BZ.trans S8)) (C.less (by decide)) hz (by k_extra "z") hk λj tj b1 n1 E_ h8 st SI e1 IJ uM J'=>?_)
  obtain⟨g9,S9,F9⟩:=Fx.aT F7 st
  have GA:=BZ.trans S9
  have X9:Wf W b1 (b1.l W.k) g9:=X4.to GA (SI.up (F9.aj C.nt)) e1 (by k_extra "z")
  have My:b1.B.length<=4891:=Nat.le_trans IJ (Nat.add_le_add_right hz 1)
  refine fF J'.row λr er j8 uN=>?_
  have to2:=PC.ext e1
  have to3:=PD.ext e1
  refine fF to2.row λζ B2 tI ζ=>?_
  refine fF to3.row λζ SJ Mz ζ=>?_
  refine aA C F9 (by k_extra "a") λoF oE fC wu=>q_.go ?_
  have AS:Ps oF [(U "one",.int (j:Int) tj),(U "bank",.ref W.k.self),(U "way",.int (u:Int) t1),(U "feed",.ref fd),(U "world",.ref W.wd),(U "kind",.int kd tk)]:=.cons wu.hd (.cons (by k_extra "w") (.cons (by k_extra "w") (.cons (by k_extra "w") (.cons (by k_extra "w") (.cons (by k_extra "w") (.nil _))))))
  have Fh:∀(o:Nat) t (b':BS) n' cR m' g' h',Sub g9 g'->Fv Γ g' m' (b'.l W.k++[Fd fd cl n' cR s ts]) h'->Bk W.k b'.B b'.ops b'.args b'.sorts b'.ae b'.xs h'->Ext b1.B b'.B->b'.B.length<=b1.B.length+3->n'<=n1+2->aF b'.B 75 1 kd o->R (.ok (.ret (.int o t))) h':=λo t b' n' cR m' g' h' S' F' bk e l HU ok=>fin o t b' n' cR m' g' h' (GA.trans S') F' bk (e1.trans e) (by lia) (by k_extra "z") ok
  have IK:∀{g} (e0 e1:Pos) (k0:Nat) (p1 p2 p3:Pos),Sub g9 g->Px Γ oF (b1.l W.k++([Fd fd cl n1 E_ s ts]++[])) g (.Subscript (.Subscript (.Name (U "world") e0) (.Constant (.str (U "names")) k0 p1) p2) (.Name (U "kind") e1) p3) (.v (.ref (W.nl kd))):=λe0 e1 k0 p1 p2 p3 S=>Mu e0 e1 k0 p1 p2 p3 (GA.trans S) (.cons (by k_extra "w") (.cons (by k_extra "w") (.nil _)))
  have PF:=Ms.up GA
  have D9:=D4.lf GA
  have fC:Fv Γ g9 oF (b1.l W.k++([Fd fd cl n1 E_ s ts]++[])) oE:=fC
  clear fin Mu Ms D4 X4 wu F9 F7 F6 F5 F4 P4 ih st x8 lZ l7 q_ BZ GA PC PD
  refine ab λQa tK=>?_
  by_cases VL:u=2
  ·refine b9 fC (by k_extra "b") (by simp[bM];lia) λga ha Sa Fa=>?_
   refine ab λQb Fj=>?_
   have Xa:=X9.lf Sa
   refine bJ (dH (ck C (v:=.ref W.k.self) (by k_extra "a") (by k_extra "w") Fa ?_) (by k_extra "R"))
   have Sb:=Sub.refl ga
   have Xb:=Xa.lf Sb
   refine yU X9.d4 (Xb.gd.up Fa.keep) (Xb.wo.inst.up Fa.keep) (by k_extra "a") ?_
   refine b_ (by k_extra "R") (by k_extra "R") (az (bV ((Pa.cons (s:=.v (.int (j:Int) tj)) (by k_extra "v") (Pa.cons (s:=.v (.int (nj kd:Int) tl)) (Px.item (IK _ _ _ _ _ _ (Sa.trans Sb)) (PF.up (Sa.trans Sb)) Px.int rfl (by decide) (by decide) (by intro _;k_extra "R")) Pa.nil (by k_extra "R")) (by k_extra "R")).go _ _ _ ga ha (Sub.refl _) Fa λvs gc hc Sc Fc ar=>?_)) (by k_extra "R")) (by k_extra "R")
   refine fv (kA ar) λζ ζ ak q1 q2=>?_
   obtain rfl:=ak
   cases q1;cases q2
   refine c6 Fc (by show 2<=1000;decide) λa gd hd Sd hl J_=>aC ?_
   have Xd:=(Xb.lf Sc).lf Sd
   refine⟨Xd.gd.up J_.keep,?_⟩
   obtain⟨G5,x5,S5⟩:=Fx.iW J_
   refine Wp.call (ES (i:=j) (j:=nj kd) (r:=r) x5 (Xd.gd.up S5) (Xd.wo.inst.up S5) X9.d4 (Xd.bk.lf J_.keep) (C.less (by decide)) (Nat.le_trans My (by decide)) (hl.up S5) er B2 (j8▸hk) (tI.trans j8.symm) λo t B' av ai af ag aO h' st b2 mk=>?_)
   obtain⟨g6,S6,F6⟩:=Fx.gy J_ st
   exact Fj.ret (tK.ret (ah (Fh o t ⟨B',av,ai,af,ag,aO⟩ _ _ _ g6 h' ((Sa.trans (Sb.trans (Sc.trans Sd))).trans S6) F6 b2 mk.ext (by have:=mk.len;show B'.length<=_;k_extra "z") (by k_extra "z") ((BL (j8▸mk) J' (to2.mono (by decide) (by decide))).mono (by decide) (by decide)))))
  refine aN fC (by k_extra "b") (by simp[bM];lia) λga ha Sa Fa=>?_
  refine aB (tK.go ?_)
  refine ab λQb Fj=>?_
  have Xa:=X9.lf Sa
  by_cases VM:u=3
  ·refine b9 Fa (by k_extra "b") (by simp[bM];lia) λgb hb Sb Fb=>?_
   refine ab λQc uS=>?_
   have Xb:=Xa.lf Sb
   refine bJ (dH (ck C (v:=.ref W.k.self) (by k_extra "a") (by k_extra "w") Fb ?_) (by k_extra "R"))
   have Sc:=Sub.refl gb
   have Xc:=Xb.lf Sc
   refine yU X9.d4 (Xc.gd.up Fb.keep) (Xc.wo.inst.up Fb.keep) (by k_extra "a") ?_
   refine b_ (by k_extra "R") (by k_extra "R") (az (bw (ow C Xc.gd (v:=.ref 84) (by k_extra "a") (by k_extra "a") Fb ?_) (by k_extra "R")) (by k_extra "R")) (by k_extra "R")
   have Sd:=Sub.refl gb
   have PG:=Sa.trans (Sb.trans (Sc.trans Sd))
   refine b_ (by k_extra "R") (by k_extra "R") (az (gI (dT λt2=>dk (l₁:=[]) (W:=3) C (by decide) Fb (Xc.lf Sd).gd (D9.lf PG) (by k_extra "a") (by k_extra "a") (by k_extra "w") (by k_extra "z") rfl (by decide) (λv8 t8 Dy ge he Gz Se Fe=>ui λt3=>?_) (by k_extra "R"))) (by k_extra "R")) (by k_extra "R")
   refine az (dT λt4=>aC ⟨((Xc.lf Sd).lf Se).gd.up Fe.keep,?_⟩) (by k_extra "R")
   refine Wp.call (iQ (C.less (by decide)) (((Xc.lf Sd).lf Se).gd.up Fe.keep) (by decide) (c8 _ (by decide)) λp ta tb hf st Dz=>?_)
   obtain⟨gf,Sf,Ff⟩:=Fx.aJ Fe st
   replace Dz:=(show((2:Int)+(v8:Int))=((2+v8:Nat):Int) from rfl)▸(lM ..)▸(zw ..)▸Dz
   have IA:=Dz.up (Ff.aj C.nt)
   refine az ((Px.local C (v:=.int (j:Int) tj) (by k_extra "a") (by k_extra "w")).go _ _ gf hf (Sub.refl _) Ff λv gg hg Sg Fg q=>aC ?_) (by k_extra "R")
   cases q
   have Xg:=(((Xc.lf Sd).lf Se).lf Sf).lf Sg
   refine⟨Xg.gd.up Fg.keep,?_⟩
   obtain⟨G5,x5,S5⟩:=Fx.iW Fg
   have lw:dD 3 r.2.2.1 ((2+v8:Nat):Int) 1:=BN (by k_extra "z")
   refine Wp.call (dX (i:=j) (r:=r) x5 (Xg.gd.up S5) (Xg.wo.inst.up S5) X9.d4 (Xg.bk.lf Fg.keep) (C.less (by decide)) (Nat.le_trans My (by decide)) er (j8▸hk) (uN.ok (by decide)) ((IA.lf Sg).lf Fg.keep) (by decide) (λζ=>rfl) (lw.ba.mono (by decide)) (lw.bb.mono (by decide)) λo t B' av ai af ag aO h' st b2 mk=>?_)
   obtain⟨g6,S6,F6⟩:=Fx.gy Fg st
   exact uS.ret (Fj.ret (ah (Fh o t ⟨B',av,ai,af,ag,aO⟩ _ _ _ g6 h' (PG.trans (Se.trans (Sf.trans (Sg.trans S6)))) F6 b2 mk.ext (by have:=mk.len;show B'.length<=_;k_extra "z") (by k_extra "z") ((zx mk er J' (j8▸lw) (by decide) (by decide) (by decide)).mono (by decide) (by decide)))))
  refine aN Fa (by k_extra "b") (by simp[bM];lia) λgb hb Sb Fb=>?_
  refine aB (Fj.go ?_)
  refine ab λQc uS=>?_
  have Xb:=Xa.lf Sb
  refine nE (Xb.wo.nm (kd:=0) (.inl rfl)) λtp VN SK=>?_
  have wn:∀e0 k0 p1 p2,Px Γ oF (b1.l W.k++([Fd fd cl n1 E_ s ts]++[])) gb (.Subscript (.Name (U "world") e0) (.Constant (.str (U "names")) k0 p1) p2) (.v (.ref W.nd)):=λe0 k0 p1 p2=>Px.key (Px.local C (by k_extra "a") (by k_extra "w")) Xb.wo.fW (by k_extra "a") (by intro _;k_extra "R")
  refine bJ (di C Fb Xb.gd (f:=399) (s:=.v (.ref W.k.self)) (Px.local C (by k_extra "a") (by k_extra "w")) (λv g2 S2 q=>⟨_,q,Mt.fW (Xb.lf S2).bf (by k_extra "a")⟩) (by k_extra "R") (by k_extra "R") (Pa.cons (s:=.v (.int ((3:Nat):Int) tp)) (Px.item (Px.names (wn _ _ _ _) Xb.wo.names (.inl rfl) Px.int (by intro _;k_extra "R")) SK Px.int rfl (by decide) (by decide) (by intro _;k_extra "R")) (Pa.cons (s:=.v (.int (j:Int) tj)) (Px.local C (by k_extra "a") (by k_extra "w")) (Pa.cons (s:=.v (.int ((nj kd+1:Nat):Int) PB)) (Px.item (IK _ _ _ _ _ _ (Sa.trans Sb)) (PF.up (Sa.trans Sb)) Px.int rfl (by decide) (by decide) (by intro _;k_extra "R")) Pa.nil (by k_extra "R")) (by k_extra "R")) (by k_extra "R")) (λgc hc Sc Fc=>?_) (by k_extra "R") (by k_extra "R"))
  have Xc:=Xb.lf Sc
  obtain⟨G5,x5,S5⟩:=Fx.iW Fc
  refine Wp.call (Dp (c:=3) (i:=j) (j:=nj kd+1) (r:=r) x5 (Xc.gd.up S5) (Xc.wo.inst.up S5) X9.d4 (Xc.bk.lf Fc.keep) (C.less (by decide)) (Nat.le_trans My (by decide)) (X9.e0.get rfl) er SJ rfl (Mz.trans j8.symm) λo t B' av ai af ag aO h' st b2 mk=>?_)
  obtain⟨g6,S6,F6⟩:=Fx.gy Fc st
  exact uS.ret (ah (Fh o t ⟨B',av,ai,af,ag,aO⟩ _ _ _ g6 h' ((Sa.trans (Sb.trans Sc)).trans S6) F6 b2 mk.ext (by have:=mk.len;show B'.length<=_;k_extra "z") (by k_extra "z") ((EV X9.e0 (j8▸mk) J' (to3.mono (by decide) (by decide))).mono (by decide) (by decide))))
 refine aZ (kh ((show Pb Γ m (b.l W.k++[Fd fd cl n tn s ts]) g1 _ (bM .Gt (dp:Int) 0) by k_extra "b").go _ _ g1 h1 (Sub.refl _) F λg2 h2 S2 F2=>?_)) (by k_extra "R")
 by_cases hd:dp=0
 ·refine hd.symm▸?_
  exact dk (l₁:=[]) (W:=2) C (by lia) F2 (X.gd.up (S.trans S2)) (D.lf (S.trans S2)) (by k_extra "a") (by k_extra "a") (by k_extra "w") (by lia) rfl (by decide) (λv t cR g' h' hv S' F'=>main v t cR g' h' (by k_extra "z") (λζ=>hv) (S2.trans S') F') (by k_extra "R")
 ·refine(show bM .Gt (dp:Int) 0=true by simp[bM];lia).symm▸?_
  exact dk (l₁:=[]) (W:=6) C (by lia) F2 (X.gd.up (S.trans S2)) (D.lf (S.trans S2)) (by k_extra "a") (by k_extra "a") (by k_extra "w") (by lia) rfl (by decide) (λv t cR g' h' hv S' F'=>main v t cR g' h' hv (λq=>absurd q hd) (S2.trans S') F') (by k_extra "R")
theorem Fm{fd cl:Addr}{dp:Nat}(Pz:dp<=1):zQ W fd cl dp:=uR Pz λζ=>uR (by decide) λq=>absurd q (by decide)
end
theorem jO.ext{B B':List Row}{i j:Nat}{r:Row}(m:jO B i r j B'):Ext B B':=by
 obtain⟨my,iz,m0,⟨ζ,a,c,ζ,⟨ζ,ζ,rfl⟩|⟨ζ,m1⟩⟩|⟨ζ,dB,dP,mA,j6,m1,m2,m3⟩⟩:=m
 ·exact m0.ext
 ·exact m0.ext.trans m1.ext
 ·exact((m0.ext.trans m1.ext).trans m2.ext).trans m3.ext
theorem jO.len{B B':List Row}{i j:Nat}{r:Row}(m:jO B i r j B'):B'.length<=B.length+5:=by
 obtain⟨my,iz,m0,⟨ζ,a,c,ζ,⟨ζ,ζ,rfl⟩|⟨ζ,m1⟩⟩|⟨ζ,dB,dP,mA,j6,m1,m2,m3⟩⟩:=m
 ·have:=m0.len;lia
 ·have:=m0.len;have:=m1.len;lia
 ·have:=m0.len;have:=m1.len;have:=m2.len;have:=m3.len;lia
theorem jO.row{B B':List Row}{i j:Nat}{r:Row}(m:jO B i r j B')(e:B[i]? =some r):∃r',B'[j]? =some r'/\r'.2.2.1=r.2.2.1:=by
 obtain⟨my,iz,m0,⟨ζ,a,c,ζ,⟨ζ,rfl,rfl⟩|⟨ζ,m1⟩⟩|⟨ζ,dB,dP,mA,j6,m1,m2,m3⟩⟩:=m
 ·exact⟨r,m0.ext.get e,rfl⟩
 ·exact⟨_,m1.at,rfl⟩
 ·exact⟨_,m3.at,rfl⟩
theorem wx(q:Int×Int):(cq (0,1) q||!cq q (0,1))=decide (0<=q.1):=by
 unfold cq
 simp only[Int.zero_mul,Int.mul_one]
 by_cases h:0<=q.1
 ·simp[h]
 ·have h1:¬(0<q.1):=by lia
  have h2:q.1<0:=by lia
  simp[h1,h2,h]
theorem tL{B B':List Row}{i j nn dd:Nat}{r:Row}{pt:Pt}{q:Int×Int}(h1:1<=nn)(PH:nn<=2900)(m:jO B i r j B')(e:B[i]? =some r)(hn:ju nn r)(x:Wt B pt dd i (.inr q)):
  ∃q',Wt B' pt (dd+2) j (.inr q')/\q'.1*q.2=(if q.1<0 then -q.1 else q.1)*q'.2:=by
 obtain⟨my,iz,m0,⟨hr,a,c,hd,h⟩|⟨hr,dB,dP,mA,j6,m1,m2,m3⟩⟩:=m
 ·refine dm (hn hr) λa' c' mn la=>?_
  replace mn:=hd▸mn;cases mn
  refine aU (x.num_inv e hr) λq1 hq hv=>?_
  replace hq:=hd▸hq;cases hq;cases hv
  rcases h with⟨ha,rfl,rfl⟩|⟨ha,m1⟩
  ·exact⟨(a,c),(x.ext m0.ext).ET (Nat.le_add_right _ _),by simp only[];rw[if_neg (by lia)]⟩
  ·refine⟨(-a,c),(Wt.num m1.at ⟨la.ba.neg.mono (by lia),la.bb.mono (by lia),la.pos⟩).ET (Nat.zero_le _),?_⟩
   simp only[]
   refine(if_pos ha).symm▸?_
   rfl
 ·have l1:dD 1 r.2.2.1 (-1) 1:=⟨by decide,by decide,λζ=>rfl,c8 _ (by decide),c8 _ (by decide)⟩
  have x1:=(x.ext m0.ext).ext m1.ext
  refine aU (dZ m2 (m1.ext.get (m0.ext.get e)) hn rfl l1 h1 (by decide) (by lia) x1) λq2 y2 s2=>?_
  have x0:Wt dP pt (dd+1) dB (.inl (cq (0,1) q||!cq q (0,1))):=.two m1.at (((Wt.num m0.at ⟨(Nat.pow_pos (by decide):(0:Nat)<2 ^ 3000),c8 _ (by decide),by decide⟩).ET (Nat.zero_le dd)).ext m1.ext) x1 (.le _ _)
  replace x0:=(wx ..)▸x0
  refine⟨if decide (0<=q.1)=true then q else q2,.ite m3.at ((x0.ext m2.ext).ext m3.ext) ?_,?_⟩
  ·by_cases h:0<=q.1
   ·simp only[h,decide_true,if_true]
    exact((x1.ext m2.ext).ext m3.ext).up
   ·simp only[h,decide_false,Bool.false_eq_true,if_false]
    exact y2.ext m3.ext
  ·by_cases h:0<=q.1
   ·simp only[h,decide_true,if_true]
    rw[if_neg (by lia)]
   ·simp only[h,decide_false,Bool.false_eq_true,if_false]
    rw[if_pos (by lia)]
    unfold bx at s2
    replace s2:=(Int.mul_one ..)▸s2
    refine s2.symm▸?_
    simp[Int.mul_comm]
section
variable{W:WA}{A:Around}{b:BS}{g h:Heap}{R:Result->Heap->Prop}
theorem oG{i:Nat}{t:Tok}{pa p0 p1:Addr}{iF iG:Pt}{nn dd:Nat}{s:Int}(x:Gr [] g h (b.l W.k))(X:Wf W b (b.l W.k) g)(Z:qY pa p0 p1 iF iG g)(hA:Rm A 21)(hz:b.B.length<=4800)(hs:s=1\/s=2)(ht:aF b.B nn dd s i)(h1:1<=nn)(hn:nn<=2900)(hd:dd<=6)
  (K:∀(b':BS) h',Step [] (b.l W.k) h (b'.l W.k) h'->Bk W.k b'.B b'.ops b'.args b'.sorts b'.ae b'.xs h'->Ext b.B b'.B->b'.B.length<=b.B.length+5->R (.ok (.ret (.bool true))) h'):
  Cd A (.call (.ref 831) ⟨[.ref W.wd,.int (i:Int) t,.ref pa],[]⟩) R h:=by
 have G:=X.gd
 refine gD [(U "world",.ref W.wd),(U "t",.int (i:Int) t),(U "points",.ref pa)] [U "told",U "point",U "found"] (ns:=[U "world",U "t",U "points",U "told",U "point",U "found"]) (gs:=[U "NumberTerms",U "_law_worth",U "_law_same",U "abs"]) (r:=20) x eH.nil G hA (jh G) (ji G) rfl rfl rfl rfl (by decide +kernel) λΓ m g1 wX eX hE bS C P S F=>?_
 refine fF ht.row λr er j8 uN=>?_
 refine au ?_
 refine aZ ?_ (by k_extra "R")
 refine di C F (by k_extra "u") (s:=.nt w.params W.k.self) (ss:=[.v (.int (i:Int) t)]) (by k_extra "v") (f:=722) (λv g2 S2 q=>?_) (by k_extra "R") (by k_extra "R") (by k_extra "A") λg2 h2 S2 F2 nt N=>?_
 ·refine aU q λnt ak N=>?_
  clear q
  obtain rfl:=ak
  exact⟨nt,rfl,Mt.eO ((X.gd.up S).up S2) N (by k_extra "a") rfl⟩
 obtain⟨G3,x3,S3⟩:=Fx.bF F2
 refine Wp.call (vV (k:=W.k) (B:=b.B) x3 ((X.gd.up S).up (S2.trans S3)) (N.up S3) ((X.wo.inst.up S).up (S2.trans S3)) X.d4 ((X.bk.lf (S.trans S2)).lf F2.keep) (C.less (by decide)) (by k_extra "z") er (j8▸hs) (uN.ok (by k_extra "z")) λj tj B' av ai af ag aO h3 st uT sz=>?_)
 obtain⟨g4,S4,F4⟩:=Fx.aT F2 st
 have IL:=sz.len
 have X4:Wf W ⟨B',av,ai,af,ag,aO⟩ ((BS.l ⟨B',av,ai,af,ag,aO⟩ W.k)++[]) g4:=X.next ((S.trans S2).trans S4) C.nt (by rw[List.append_nil];exact F4) uT sz.ext (by show B'.length<=4900;k_extra "z")
 replace X4:=(List.append_nil ..)▸X4
 generalize AI:(BS.mk B' av ai af ag aO)=b' at X4
 have eB:b'.B=B':=by rw[<-AI]
 replace F4:Fv Γ g4 m (b'.l W.k) h3:=by refine AI▸?_;exact F4
 have K':∀h',Step [] (b.l W.k) h (b'.l W.k) h'->Bk W.k b'.B b'.ops b'.args b'.sorts b'.ae b'.xs h'->R (.ok (.ret (.bool true))) h':=λh' s' k'=>K b' h' s' k' (by refine eB.symm▸?_;exact sz.ext) (by refine eB.symm▸?_;exact IL)
 have dy:=(S2.trans S4)
 clear K F F2 st uT x3 S3
 replace sz:=eB.symm▸sz
 clear AI eB
 try dsimp only
 refine aA C F4 (by k_extra "a") λm5 h5 F5 M5=>?_
 refine ab λQ' kq=>?_
 refine tJ (kvs:=[(U "world",.ref W.wd),(U "t",.int (i:Int) t),(U "told",.int (j:Int) tj)]) C F5 (by k_extra "v") ((Z.lf S).lf dy).ls (by k_extra "a") (.cons (by k_extra "w") (.cons (by k_extra "w") (.cons (by k_extra "w") (.nil _)))) (by kernel_rfl) (λn v m6 g6 h6 c Q6 hv S6 F6 P6 M6 kn kr=>?_) λm6 g6 h6 S6 F6 P6=>?_
 ·refine fv ((((Z.lf S).lf dy).lf S6).get hv) λp pt ak Pp ok=>?_
  obtain rfl:=ak
  obtain⟨⟨a,c1⟩,xq⟩:=ht.worth pt ok
  refine aU (tL h1 hn sz er uN xq) λq' IM Fo=>?_
  have IP:=xq.ext sz.ext
  have r1:=(IP.rat (by k_extra "z")).mono (show 20000000<=67108864 by decide)
  have r2:=(IM.rat (by k_extra "z")).mono (show 20000000<=67108864 by decide)
  have r3:aK 67108864 (if a<0 then -a else a,c1):=r1.abs
  have X6:Wf W b' (c::b'.l W.k) g6:=by
   have y:=X4.lf S6
   exact⟨y.wo,y.d4,y.vY,y.fn,y.qw,y.sn,y.bk,λz hz=>List.mem_cons_of_mem _ hz,y.len,y.e0⟩
  refine ab λQ7 mW=>?_
  refine aH C F6 (by k_extra "a") (by k_extra "v") (λv7 m7 g7 h7 S7 F7 q7 M7=>?_) (by k_extra "R")
  have q7:aW g7 v7 (.inr (a,c1)):=q7
  refine mW.go ?_
  refine ab λQ8 uQ=>?_
  refine aN F7 (by k_extra "b") ?_ λg8 h8 S8 F8=>?_
  ·simpa using Fo
  refine aB (uQ.go (aB ?_))
  exact kn m7 g8 h8 (S7.trans S8) F8 (P6.st M7 (by kernel_rfl))
 ·refine aU (sz.row er) λr' kx AP=>?_
  have B2:=sz.ext.get er
  have X6:=X4.lf S6
  refine kq.go ?_
  refine ab λQ7 mW=>?_
  refine bR F6 (by k_extra "v") λv g7 h7 S7 F7 q7=>?_
  obtain rfl:v= .bool true:=by refine(show v=_ from q7).symm▸AP.symm▸?_;simp[bM]
  exact mW.ret (ah (K' _ (x.d5 eX F7 (by k_extra "q")) (X6.bk.lf (S7.trans F7.keep))))
end
section
variable{A:Around}{h g:Heap}{R:Result->Heap->Prop}{ρ:List (Addr×Obj)}{l:List Cell}
def wy(f:Addr)(n:Nat)(g:Heap)(l:List Cell)(P:Value->List Cell->Heap->Prop)(B:List Cell->Heap->Prop):Prop:=
 ∀(A:Around) (ρ:List (Addr×Obj)) (G h:Heap) (R:Result->Heap->Prop),Ao A ρ->eH ρ->Rm A n->Gr ρ G h l->Sub g G->
  (∀v l' h',Step ρ l h l' h'->P v l' h'->R (.ok (.ret v)) h')->(∀e T l' h',Step ρ l h (X e T++l') h'->B l' h'->R (.error (.ref e)) h')->Cd A (.call (.ref f) ⟨[],[]⟩) R h
theorem B3{f:Addr}{n:Nat}{ob:Obj}{fd:FuncData}{P:Value->List Cell->Heap->Prop}{B:List Cell->Heap->Prop}(x:Gr ρ g h l)(nt:eH ρ)(gw:Ao A ρ)(G:Gd g)(hA:Rm A (n+2))(hf:g.get? f=some ob)(hd:ob.data= .func fd)(D:wy f n g l P B)(IQ:∀l' h h',B l' h->cy h h'->B l' h')
  (K:∀v l' h',Step ρ l h l' h'->P v l' h'->R (.ok (.ret v)) h')(Kb:∀t l' h',Step ρ l h l' h'->B l' h'->R (.ok (.ret (.int 0 t))) h'):Cd A (.call (.ref 797) ⟨[.ref f],[]⟩) R h:=by
 refine dq (ps:=[U "deed"]) (rest:=[]) (ns:=[U "deed"]) (gs:=[U "SortFault"]) (vs:=[some (.ref f)]) (r:=n+1) x G hA (pJ G) (pK G) rfl rfl rfl rfl rfl (by decide +kernel) λL g1 h1 env A1 hE bS hr O S F=>?_
 have hB:Ab A1 env L ρ:=Ab.of gw hE bS O
 refine au ?_
 refine H8 O (x:=U "SortFault") (E₁:=λe h2=>∃ea T l' g2,e= .ref ea/\Sub g1 g2/\Fx ρ g2 L (mv [U "deed"] [some (.ref f)]) (X ea T++l') h2/\B l' h2) (by decide +kernel) Kv.hd.mem hB ?_ ?_
 ·refine au ?_
  refine bJ ?_
  refine bw ?_ (by k_extra "R")
  k_extra "T"
  refine A8 hd (F.keep _ _ (S _ _ hf)) ?_
  refine Wp.call ?_
  obtain⟨oL,G2,eL,x2,S2⟩:=Fx.BF (l₀:=[]) F
  have B4:eH ((L,oL)::ρ):=λp hp=>by
   rcases List.mem_cons.mp hp with rfl|hp
   ·exact aS F.ns eL
   ·exact nt p hp
  refine D A1 _ G2 h1 _ (hB.ao F eL) B4 (hr.less (by k_extra "z")) x2 (S.trans S2) (λv l' h' st pv=>?_) λe T l' h' st b=>?_
  ·obtain⟨g3,S3,F3⟩:=Fx.jr (l₀:=[]) F eL st
   exact ah (K v l' h' (x.done F3 (by k_extra "q")) pv)
  ·obtain⟨g3,S3,F3⟩:=Fx.jr (l₀:=[]) F eL st
   exact⟨e,T,l',g3,rfl,S3,F3,b⟩
 ·rintro e h2 ⟨ea,T,l',g2,rfl,S2,F2,b⟩
  refine⟨ea,T,g2,_,l',rfl,(G.up S).up S2,F2,λT' g3 h3 S3 F3=>?_⟩
  refine au ?_
  k_extra "T"
  obtain⟨g4,S4,ζ,F4⟩:=Fx.weak (l':=l') F3 (.cons _ (.cons _ (List.Sublist.refl _)))
  exact ah (Kb _ l' _ (x.done F4 (by k_extra "q")) (IQ l' h2 _ b ((F2.aj nt).trans ((S3.trans S4).aj.trans F4.keep.aj))))
end
section
variable{Γ:Cx}{A:Around}{E:Value->Heap->Prop}{m m':Str->Option Value}{l:List Cell}{g g' h:Heap}{r:Nat}{ns gs:List Str}{cs:List (Str×Addr)}{e e':Expr}{s t:Sp}{pos:Pos}{ρ:List (Addr×Obj)}
theorem Px.free{x:Str}{c:Addr}{v:Value}(hk:Γ.env.scope.kind= .function)(hf:Γ.env.kindOf x=some .free)(hd:(x==("__debug__":Str))=false&&(x==("__classdict__":Str))=false)(hc:Γ.env.cells.lookup x=some c)(hv:Ck g c v):Px Γ m l g (.Name x pos) (.v v):=
 .val λE Q g1 h S F q=>EK hk hf hd hc ((hv.up S).up F.keep) q
theorem tM{f c':Addr}{qual:Str}{params:Arguments}{body:Expr}{scope:Scope}{cl:List (Str×Addr)}{pm ek:Value}{nt:Addr}{name:Str}{fm:Addr}{ob:Obj}{fd:FuncData}{es:List Expr}{ss:List Sp}{n:Nat}{P:Value->List Cell->Heap->Prop}{B:List Cell->Heap->Prop}{p1 p2 p3:Pos}(G:Gd g)
  (ho:g.get? f=some (kla_obj "<lambda>" qual params body scope cl pm c' ek))(i8:g.CodeRec (.ref c') qual)(bB:bindArgs (kla_fn "<lambda>" qual params body scope cl pm (.ref c') ek) ⟨[],[]⟩=pure [])
  (g_:(ij (kla_fn "<lambda>" qual params body scope cl pm (.ref c') ek) [] []&&scope.names.all (λy=>y.2 !=.cell)&&!scope.isCoroutine&&!scope.isGenerator)=true)
  (bK:body= .Call (.Attribute (.Name (U "given") p1) name p2) (e::es) [] p3)
  (x0:∀Γ m l,Γ.env=callEnv (kla_fn "<lambda>" qual params body scope cl pm (.ref c') ek) Γ.L f->Px Γ m l g (.Name (U "given") p1) (.v (.ref nt)))(M:Mt nt name fm g)(hK:(K w.params)[C6 fm]? =some (fm,ob))(hd:ob.data= .func fd)
  (ha:∀Γ m l,Γ.env=callEnv (kla_fn "<lambda>" qual params body scope cl pm (.ref c') ek) Γ.L f->Co Γ n [] [] []->Pa Γ m l g (e::es) ss)
  (IS:∀(A:Around) (ρ:List (Addr×Obj)) (G h:Heap) (R:Result->Heap->Prop) (vs:List Value),Ao A ρ->eH ρ->Rm A n->Gr ρ G h l->Sub g G->Ar G ss vs->
   (∀v l' h',Step ρ l h l' h'->P v l' h'->R (.ok (.ret v)) h')->(∀e T l' h',Step ρ l h (X e T++l') h'->B l' h'->R (.error (.ref e)) h')->Cd A (.call (.ref fm) ⟨.ref nt::vs,[]⟩) R h)
  (IQ:∀l' h h',B l' h->cy h h'->B l' h')
  (he:∀env,∃pl:Sem Bool,eval (.Call (.Attribute (.Name (U "given") p1) name p2) (e::es) [] p3) env=(do
   let ov <-eval (.Name (U "given") p1) env
   standAt p2.atName
   let(f,first) <-holding [ov] (getMethod ov name pl)
   callWith p3 f first (backTo p3 (starEach (e::es) env)) []))
  (hs:∀env,starEach (e::es) env=(false,eval e env)::starEach es env):wy f (n+1) g l P B:=by
 intro A ρ G2 h R gw wc hA x S kg kb
 refine zg (gs:=[]) x (G.up S) hA (S _ _ ho) (i8.keeps S) bB g_ λL g1 h1 env A1 hE bS hr O S1 F=>?_
 have hB:Ab A1 env L ρ:=Ab.of gw hE bS O
 have C:Co ⟨A1,env,ρ,L⟩ n [] [] []:=⟨hr,O,Ec.nil,wc⟩
 have S2:=S.trans S1
 refine bK.symm▸?_
 refine aP (he env) λpl he=>?_
 refine qz (Γ:=⟨A1,env,ρ,L⟩) (r:=n) (ns:=[]) (gs:=[]) (cs:=[]) C F (G.up S2) ((x0 ⟨A1,env,ρ,L⟩ _ l hE).lf S2) (λv g3 S3 q=>⟨nt,q,⟨λA E pl Q h S4 k=>M.go A E pl Q h ((S2.trans S3).trans S4) k⟩⟩) hK hd
  ⟨λpos E Q g3 h3 S3 F3 k=>(ha ⟨A1,env,ρ,L⟩ _ l hE C).go pos E Q g3 h3 (S2.trans S3) F3 k⟩ (λv vs g3 h3 S3 F3 q a=>?_) he (hs env)
 obtain rfl:v= .ref nt:=q
 refine Wp.call ?_
 have F3:Fx ρ g3 L (mv [] []) l h3:=F3
 obtain⟨oL,G4,eL,x4,S4⟩:=Fx.BF (l₀:=[]) F3
 have B4:eH ((L,oL)::ρ):=λp hp=>by
  rcases List.mem_cons.mp hp with rfl|hp
  ·exact aS F3.ns eL
  ·exact wc p hp
 refine IS A1 _ G4 h3 _ vs (hB.ao F3 eL) B4 hr x4 (S2.trans (S3.trans S4)) (a.up S4) (λv l' h' st pv=>?_) λe T l' h' st b=>?_
 ·obtain⟨g5,S5,F5⟩:=Fx.jr (l₀:=[]) F3 eL st
  exact kg v l' h' (x.done F5 (S1.trans (S3.trans S5))) pv
 ·obtain⟨g5,S5,F5⟩:=Fx.jr (l₀:=[]) F3 eL st
  exact gu hB F5 λT' g6 h6 S6 F6=>kb e T' l' h6 (x.done F6 (S1.trans (S3.trans (S5.trans S6)))) (IQ l' h' h6 b (F5.aj wc |>.trans (S6.aj.trans F6.keep.aj)))
end
section
variable{W:WA}{A:Around}{B:List Row}{ops args sorts ae:List Value}{xs:List (Row×Addr×Value)}{h g:Heap}{R:Result->Heap->Prop}
theorem wA{sa:Addr}{vs:List Value}{is:List Nat}{nn:Nat}(hA:Rm A 3)(O:Wo W h)(At:dS W.k)(b:Bk W.k B ops args sorts ae xs h)(O5:Ls h W.k.ops ops)(R8:Ls h W.k.ae ae)(hz:B.length<=5000)(hl:Ls h sa vs)(hi:IntsAre vs (bA is))(hr:∀i∈is,∃r,B[i]? =some r/\ju nn r)(h4:is.length<=100)
  (K:∀D ys h',Step [] [] h [(D,Lo ys)] h'->du h' ys (ay B is)->R (.ok (.ret (.ref D))) h'):Cd A (.call (.ref 802) ⟨[.ref W.wd,.ref sa],[]⟩) R h:=by
 obtain⟨G,I,hw,Gy,n0,n1,n2⟩:=id O
 refine zC (binds:=[(U "world",.ref W.wd),(U "some",.ref sa)]) (ps:=[U "some"]) (rest:=[]) (as:=[.ref sa]) (ns:=[U "some"]) (gs:=[]) (vs:=[some (.ref sa)]) (cc:=λn=>[(U "world",n)]) (cl:=λn=>[(n,some (.ref W.wd))]) (r:=2) (Gr.nil h) G hA (mh G) (mi G) rfl rfl rfl rfl rfl rfl (λn=>by k_extra "R") (λn=>by k_extra "R") (by kernel_rfl) (λn=>rfl) λL g1 h1 env A1 hE bS AM Oe C S kc F=>?_
 have c1:Ck g1 (L+1) (.ref W.wd):=kc (L+1,some (.ref W.wd)) List.mem_cons_self
 refine Wp.mono (E:=λζ ζ=>False) ?_ (λζ ζ q=>q) λζ ζ q=>q.elim
 refine au ?_
 refine bJ ?_
 have wZ:=bG hi
 refine ky (cl:=[(U "world",L+1)]) (gs':=[]) (n:=vs.length) (P:=λi v=>vs[i]? =some v) [] L AM.hd (by k_extra "s") (by k_extra "s") (by simp) (by refine hE.symm▸?_;k_extra "R") (by kernel_rfl)
  (λi ys g l=>l=[]/\Sub g1 g/\ys.length<=i/\i<=100/\du g ys (ay B (is.take i))) (λi ys g l q=>by lia) ?_ ?_
 ·k_extra "T"
  refine⟨_,_,[],(by k_extra "s"),Src.list (by k_extra "u"),λg' s=>⟨rfl,Sub.trans (by k_extra "q") s,by simp,by k_extra "z",.nil⟩,λD ys aV bY aQ bj I2 T2 S2 F2=>?_⟩
  refine CX I2 λak S3 uL ζ mq=>?_
  clear I2
  obtain rfl:=ak
  rw[show is.take vs.length=is by refine wZ.symm▸?_;exact List.take_length] at mq
  exact ah (K D ys bj ((Gr.nil h).done F2 (S.trans S2)) ((mq.up T2).up F2.keep.aj))
 ·rintro i v ys aX l h₁ it p Da Ca cB qC hP ⟨rfl,S1,uL,Dw,mq⟩ Oc Cc F1
  refine dm (cw hi i v hP) λj tj hj ak=>?_
  obtain rfl:=ak
  refine aU (hr j (List.mem_of_getElem? hj)) λr er hn=>?_
  have VO:j<B.length:=(List.getElem?_eq_some_iff.mp er).1
  obtain⟨to,ts,va,vd,e1,e2,e3,e4,ra,rd⟩:=b.rows.row er
  have e:ay B (is.take (i+1))=ay B (is.take i)++(numAt B j).toList:=by rw[take_snoc hj,gS]
  refine lA ?_
  k_extra "T"
  refine Wp.call (pT (AM.less (by decide)) (by k_extra "u") (by k_extra "u") At (by k_extra "u") e1 (by k_extra "z") λh2 st=>?_)
  obtain⟨g3,S3,F3⟩:=Fx.aJ (by k_extra "s") st
  try dsimp only
  k_extra "T"
  by_cases cZ:r.1=U "num"
  ·rw[if_pos (by simpa using cZ)]
   refine dm (hn cZ) λa c q1 lo=>?_
   replace rd:=q1▸rd
   k_extra "T"
   refine Wp.call (iS (AM.less (by decide)) (by k_extra "u") (by k_extra "u") At (by k_extra "u") e4 (by k_extra "z") λh3 st=>?_)
   obtain⟨g4,S4,F4⟩:=Fx.aJ (by k_extra "s") st
   try dsimp only
   exact⟨g4,[],F4,S3.trans S4,rfl,S1.trans (S3.trans S4),by simp;k_extra "z",by lia,by
    refine e.symm▸(dF er cZ q1).symm▸?_
    exact(mq.up (S3.trans S4).aj).snoc (aD.pv (rd.up (S.trans (S1.trans (S3.trans S4))).aj))⟩
  ·rw[if_neg (by simpa using cZ)]
   exact⟨g3,[],F3,S3,rfl,S1.trans S3,by k_extra "z",by lia,by
    refine e.symm▸(eU er cZ).symm▸(Option.toList_none ..).symm▸(List.append_nil ..).symm▸?_
    exact mq.up S3.aj⟩
theorem mX{b:BS}{l:List Cell}{sa:Addr}{vs:List Value}{is:List Nat}{nn:Nat}(X:Wf W b l g)(hA:Rm A 3)(hl:Ls g sa vs)(hi:IntsAre vs (bA is))(hr:∀i∈is,∃r,b.B[i]? =some r/\ju nn r)(h4:is.length<=100):Qc A 802 [.v (.ref W.wd),.v (.ref sa)] (.f (ay b.B is)) g l:=
 ⟨λR ρ L m g1 h us nt S F a kk=>by
  refine fv (kA a) λζ ζ ak p q=>?_
  obtain rfl:=ak
  cases p;cases q
  have D:=X.rd S F
  refine wA hA D.wo X.d4 ((X.bk.lf S).lf F.keep) D.lo D.ld (by have:=X.len;k_extra "z") ((hl.up S).up F.keep) hi hr h4 λD ys h' st hq=>?_
  obtain⟨g2,S2,F2⟩:=Fx.ja (l₀:=[]) (l:=[]) (l₁:=l) (l':=[(D,Lo ys)]) F st
  obtain⟨g3,S3,SM,F3⟩:=Fx.freeze F2
  exact kk _ g3 h' (S2.trans S3) F3 ⟨D,ys,rfl,SM,hq.up (F3.aj nt)⟩⟩
theorem tN{b:BS}{l:List Cell}{vs:List Value}{is:List Nat}{nn:Nat}(X:Wf W b l g)(hA:Rm A 3)(hi:IntsAre vs (bA is))(hr:∀i∈is,∃r,b.B[i]? =some r/\ju nn r)(h4:is.length<=100):Qc A 802 [.v (.ref W.wd),.l vs] (.f (ay b.B is)) g l:=
 ⟨λR ρ L m g1 h us nt S F a kk=>by
  obtain⟨ζ,ζ,rfl,p,sa,rfl,hl⟩:=kA a
  exact(mX (X.lf S) hA hl hi hr h4).go R ρ L m g1 h _ nt (Sub.refl _) F (.cons p (.cons rfl .nil)) kk⟩
end
section
variable{Γ:Cx}{A:Around}{E:Value->Heap->Prop}{m m':Str->Option Value}{l l':List Cell}{g g' h h':Heap}{r:Nat}{ns gs:List Str}{cs:List (Str×Addr)}{e e':Expr}{s t:Sp}{pos:Pos}{ρ:List (Addr×Obj)}{L:Addr}{oL:Obj}
inductive Mg(ρ:List (Addr×Obj))(g g2:Heap)(L:Addr)(m:Str->Option Value)(l:List Cell)(h:Heap):Prop
 |mk (g3:Heap) (s:Sub g g3) (s2:Sub g2 g3) (F:Fx ρ g3 L m l h)
theorem Fx.wB(F:Fx ρ g L m l h)(e:h.get? L=some oL)(s:Step ((L,oL)::ρ) l h l' h'){g2:Heap}(y:Gr ((L,oL)::ρ) g2 h' l'):Mg ρ g g2 L m l' h':=by
 obtain⟨g3,S3,F3⟩:=Fx.jr (l₀:=[]) F e s
 refine⟨g3,S3,λb o eb=>?_,F3⟩
 refine F3.max b o (y.sub b o eb) (λq=>?_) (λq=>?_) λq=>?_
 ·rw[y.bH b (by refine q.symm▸?_;exact List.mem_cons_self)] at eb;cases eb
 ·replace eb:=(y.bo b q)▸eb;cases eb
 ·replace eb:=(y.bH b (List.mem_cons_of_mem _ q))▸eb;cases eb
end
inductive MA(ρ:List (Addr×Obj))(g:Heap)(L:Addr)(m:Str->Option Value)(l:List Cell)(h:Heap)(a b c:Addr)(u v x:Value):Prop
 |mk (g':Heap) (s:Sub g g') (ka:Ck g' a u) (kb:Ck g' b v) (kc:Ck g' c x) (F:Fx ρ g' L m l h)
section
variable{Γ:Cx}{A:Around}{E:Value->Heap->Prop}{m m':Str->Option Value}{l l':List Cell}{g g' h h':Heap}{r:Nat}{ns gs:List Str}{cs:List (Str×Addr)}{e e':Expr}{s t:Sp}{pos:Pos}{ρ:List (Addr×Obj)}{L:Addr}
theorem Fx.MB{a b c:Addr}{u v x:Value}(F:Fx ρ g L m ((a,Ce (some u))::(b,Ce (some v))::(c,Ce (some x))::l) h):MA ρ g L m l h a b c u v x:=by
 obtain⟨g1,S1,k1,F1⟩:=F.fX
 obtain⟨g2,S2,k2,F2⟩:=F1.fX
 obtain⟨g3,S3,k3,F3⟩:=F2.fX
 exact⟨g3,(S1.trans S2).trans S3,(show Ck g1 a u from k1).up (S2.trans S3),(show Ck g2 b v from k2).up S3,k3,F3⟩
theorem i3{P:Array Value->Value->List Cell->Heap->Prop}{B:Array Value->List Cell->Heap->Prop}{n c T:Nat}{qual:Str}{ps:Array Value}{l':Array Value->List Cell}{params:Arguments}{body:Expr}{scope:Scope}{s_:List (Str×Addr)}{p lp:Pos}{Q:Value->Heap->Prop}
  (C:Co Γ r ns gs cs)(F:Fv Γ g m l h)(G:Gd g)(hB:Ab Γ.A Γ.env Γ.L Γ.ρ)(hx:Gs gs (U "_law_tried"))(hr:n+2<=r)(hq:Γ.env.qual++"<lambda>"=qual)(EJ:defaultsOf params Γ.env=([],[]))(uH:Γ.env.code= .ref c)(hC:CodeHd g c T)(J1:T≠4)(LW:mainGlobals≠T)(u:∀aI,dA T (Tb ps) (Tb aI) l (l' aI))(ht:aM g qual ps)(j4:closureFor scope Γ.env=pure s_)
  (D:∀f c' pm ek aI g1,Sub g g1->g1.get? f=some (kla_obj "<lambda>" qual params body scope s_ pm c' ek)->g1.CodeRec (.ref c') qual->wy f n g1 (l' aI) (P aI) (B aI))
  (IQ:∀aI l' h h',B aI l' h->cy h h'->B aI l' h')
  (k:∀v aI IT g' h',Sub g g'->aM g' qual aI->Fv Γ g' m IT h'->P aI v IT h'->Q v h')
  (kb:∀t aI IT g' h',Sub g g'->aM g' qual aI->Fv Γ g' m IT h'->B aI IT h'->Q (.int 0 t) h')
  (he:eval (.Call (.Name (U "_law_tried") p) [.Lambda params body scope lp] [] pos) Γ.env=(do callWith pos (<-eval (.Name (U "_law_tried") p) Γ.env) [] (backTo pos (starEach [.Lambda params body scope lp] Γ.env)) (backToKw pos (keywordEach [] Γ.env))):=by rfl)
  (hs:starEach [.Lambda params body scope lp] Γ.env=(false,eval (.Lambda params body scope lp) Γ.env)::starEach [] Γ.env:=by rfl):Wp Γ.A (eval (.Call (.Name (U "_law_tried") p) [.Lambda params body scope lp] [] pos) Γ.env) Q E h:=by
 refine bw ((Px.glob C G hx (.tl (.tl (.tl (.tl (.tl (.tl (.tl (.tl (.tl (.tl (.tl (.tl (.tl (.tl (.tl (.tl (.tl (.tl (.tl (.tl (.tl (.tl .hd))))))))))))))))))))))).go _ _ g h (Sub.refl _) F λv g2 h2 S2 F2 e2=>?_) he
 obtain rfl:v= .ref 797:=e2
 refine b_ (by k_extra "R") (by k_extra "R") (az ?_ hs) hs
 subst hq
 refine zf C.ev F2 (G.up S2) EJ uH (hC.keeps S2) J1 LW u (ht.up S2) j4 λf c' pm ek aI g3 h3 S3 PI hf SN F3=>?_
 refine aC ⟨((G.up S2).up S3).up F3.keep,?_⟩
 have IU:Fx Γ.ρ g3 Γ.L m (l' aI) h3:=F3
 obtain⟨oL,G4,eL,x4,S4⟩:=Fx.BF (l₀:=[]) IU
 have B4:eH ((Γ.L,oL)::Γ.ρ):=λp hp=>by
  rcases List.mem_cons.mp hp with rfl|hp
  ·exact aS IU.ns eL
  ·exact C.nt p hp
 refine Wp.call (B3 x4 B4 (hB.ao IU eL) ((G.up S2).up (S3.trans S4)) (C.rm.less (by lia)) (S4 _ _ hf) rfl (D f c' pm ek aI G4 (S2.trans (S3.trans S4)) (S4 _ _ hf) (SN.keeps S4)) (IQ aI) (λv l2 h5 st pv=>?_) λt l2 h5 st b=>?_)
 ·obtain⟨g5,S5,F5⟩:=Fx.jr (l₀:=[]) IU eL st
  exact k v aI l2 g5 h5 (S2.trans (S3.trans S5)) (PI.up S5) F5 pv
 ·obtain⟨g5,S5,F5⟩:=Fx.jr (l₀:=[]) IU eL st
  exact kb t aI l2 g5 h5 (S2.trans (S3.trans S5)) (PI.up S5) F5 b
end
section
variable{g h h':Heap}{ρ:List (Addr×Obj)}{l l' l₁:List Cell}
theorem Gr.front(x:Gr ρ g h (l++l₁)):Gx ρ g l h:=by
 have key:∀b o,h.get? b=some o->b∉adr l->b∉adr ρ->(hideAll h (adr l++adr ρ)).get? b=some o:=λb o e h2 h3=>hideAll_get _ e λq=>(List.mem_append.mp q).elim h2 h3
 refine⟨hideAll h (adr l++adr ρ),⟨x.own.of_append.1,λb o e=>of_hideAll _ e,λb hb=>hideAll_none _ (List.mem_append_left _ hb),λb hb=>hideAll_none _ (List.mem_append_right _ hb),λb hb=>x.cS b (by refine aq.symm▸?_;exact List.mem_append_left _ hb),x.fr,key⟩,λb o e=>key b o (x.sub b o e) (λq=>?_) λq=>?_⟩
 ·rw[x.bo b (by refine aq.symm▸?_;exact List.mem_append_left _ q)] at e;cases e
 ·replace e:=(x.bH b q)▸e;cases e
theorem Step.front(x:Gr ρ g h (l++l₁))(s:Step ρ l h l' h'):Step ρ (l++l₁) h (l'++l₁) h':=by
 have nd:=x.own.nd
 replace nd:=aq▸nd
 refine u9 (List.nodup_append.mp nd) λn1 n2 n3=>?_
 have k1:∀b∈adr l₁,b∉adr l:=λb h1 h2=>n3 b h2 b h1 rfl
 have k2:∀b∈adr l₁,∃o,h.get? b=some o:=λb hb=>by
  refine aP (f5 hb) λp hp=>?_
  obtain⟨o,h1,ζ⟩:=x.own.at' _ (List.mem_append_right _ hp)
  exact⟨o,h1⟩
 refine⟨λb o e h1 h2=>s.keep b o e (λq=>h1 (by refine aq.symm▸?_;exact List.mem_append_left _ q)) h2,s.fr,⟨λp hp=>?_,?_,λp hp=>?_⟩,λp hp=>?_⟩
 ·rcases List.mem_append.mp hp with hp|hp
  ·exact s.own.at' p hp
  ·obtain⟨o,h1,h2⟩:=x.own.at' p (List.mem_append_right _ hp)
   exact⟨o,s.keep _ _ h1 (k1 _ (ax hp)) (x.cS _ (by refine aq.symm▸?_;exact List.mem_append_right _ (ax hp))),h2⟩
 ·refine aq.symm▸?_
  refine List.nodup_append.mpr ⟨s.own.nd,n2,λa ha b hb e=>?_⟩
  subst e
  refine aP (f5 ha) λp hp=>?_
  rcases s.new _ hp with q|q
  ·exact k1 a hb q
  ·refine aP (k2 a hb) λo ho=>?_
   replace ho:=q▸ho;cases ho
 ·rcases List.mem_append.mp hp with hp|hp
  ·exact s.own.nt p hp
  ·exact x.own.nt p (List.mem_append_right _ hp)
 ·rcases List.mem_append.mp hp with hp|hp
  ·rcases s.new p hp with q|q
   ·exact .inl (by refine aq.symm▸?_;exact List.mem_append_left _ q)
   ·exact .inr q
  ·exact .inl (by refine aq.symm▸?_;exact List.mem_append_right _ (ax hp))
theorem Step.aj(s:Step ρ l h l' h')(x:Gr ρ g h l)(nt:eH ρ):cy h h':=λa o t e=>s.keep a o e (x.own.cI e t) (x.fr.cI nt e t)
end
def Lay(h:Heap)(xs:List Value):Prop:=∃ds,ReadsAll h xs ds []/\PyData.canLayAll0 ds=true/\ds.isEmpty=xs.isEmpty
section
variable{Γ:Cx}{A:Around}{m:Str->Option Value}{l:List Cell}{g h:Heap}{pos:Pos}{xs:List Value}
theorem Lay.ints{is:List Int}(x:IntsAre xs is):Lay h xs:=⟨is.map .int,kZ h x,gq is,by cases x <;> rfl⟩
theorem uU:∀ds:List PyData,PyData.eqv (.list ds) (.list [])=ds.isEmpty
 |[]=>rfl
 |_::_=>rfl
theorem Kc.zR(hA:Rm A 0)(hx:∀h,Sub g h->Lay h xs):Kc A .Eq (.l xs) (.l []) xs.isEmpty g:=⟨λE Q x y h S p q k=>.of λgg d kk o Q' E' hQ hE=>by
 obtain⟨a,rfl,oa,ea,MC,ζ,na,MD⟩:=p
 obtain⟨b,rfl,ob,eb,ME,ζ,nb,MF⟩:=q
 refine fF (hx h S) λds rs cl em=>?_
 refine PySem.SeqAt.compareEq_reads (s:=⟨h,gg,d,kk,o⟩) (.list ea MC MD (by simpa using rs)) (.list eb ME MF (by simpa using ReadsAll.nil)) (by simpa[PyData.canLay0] using cl) (by rfl) ?_ (hQ _ _ _ ?_)
 ·have h1:=hA.un
  have h2:min (PyData.list ds).depth (PyData.list []).depth<=1:=Nat.le_trans (Nat.min_le_right _ _) (by decide)
  show A.units+_<9900
  lia
 ·refine(uU ..).symm▸em.symm▸?_;exact k⟩
theorem Kc.IV(hA:Rm A 0)(hx:∀h,Sub g h->Lay h xs):Kc A .NotEq (.l xs) (.l []) (!xs.isEmpty) g:=⟨λE Q x y h S p q k=>.of λgg d kk o Q' E' hQ hE=>by
 obtain⟨a,rfl,oa,ea,MC,ζ,na,MD⟩:=p
 obtain⟨b,rfl,ob,eb,ME,ζ,nb,MF⟩:=q
 refine fF (hx h S) λds rs cl em=>?_
 refine PySem.SeqAt.compareNe_reads (s:=⟨h,gg,d,kk,o⟩) (.list ea MC MD (by simpa using rs)) (.list eb ME MF (by simpa using ReadsAll.nil)) (by simpa[PyData.canLay0] using cl) (by rfl) ?_ (hQ _ _ _ ?_)
 ·have h1:=hA.un
  have h2:min (PyData.list ds).depth (PyData.list []).depth<=1:=Nat.le_trans (Nat.min_le_right _ _) (by decide)
  show A.units+_<9900
  lia
 ·refine(uU ..).symm▸em.symm▸?_;exact k⟩
theorem Px.B5(hs:starEach [] Γ.env=[]:=by rfl):Px Γ m l g (.List [] pos) (.l []):=
 ⟨λE Q g1 h S F q=>bV (aC (c6 F (by decide) λa g2 h2 S2 hl F2=>q _ g2 h2 S2 F2 ⟨a,rfl,hl⟩))⟩
end
inductive Told(k:dg)(b:BS)(lr:List Cell)(is:List Nat)(s:Int):Value->List Cell->Heap->Prop
 |mk (j:Nat) (t:Tok) (b':BS) (h:Heap) (bk:Bk k b'.B b'.ops b'.args b'.sorts b'.ae b'.xs h) (p:cN b.B is s j b'.B):Told k b lr is s (.int (j:Int) t) (b'.l k++lr) h
inductive oH(k:dg)(b:BS)(lr:List Cell)(n:Nat):List Cell->Heap->Prop
 |mk (h:Heap) (bk:Bk k b.B b.ops b.args b.sorts b.ae b.xs h) (p:1<n):oH k b lr n (b.l k++lr) h
theorem Told.go{k:dg}{b:BS}{lr l:List Cell}{is:List Nat}{s:Int}{v:Value}{g h:Heap}{ρ:List (Addr×Obj)}{L:Addr}{m:Str->Option Value}{G:Prop}(q:Told k b lr is s v l h)(F:Fx ρ g L m l h)(go:∀(j:Nat) (t:Tok) (b':BS),v= .int (j:Int) t->Fx ρ g L m (b'.l k++lr) h->Bk k b'.B b'.ops b'.args b'.sorts b'.ae b'.xs h->cN b.B is s j b'.B->G):G:=by
 cases q with|mk j t b' _ bk p=>exact go j t b' rfl F bk p
theorem oH.go{k:dg}{b:BS}{lr l:List Cell}{n:Nat}{g h:Heap}{ρ:List (Addr×Obj)}{L:Addr}{m:Str->Option Value}{G:Prop}(q:oH k b lr n l h)(F:Fx ρ g L m l h)(go:Fx ρ g L m (b.l k++lr) h->Bk k b.B b.ops b.args b.sorts b.ae b.xs h->1<n->G):G:=by
 cases q with|mk _ bk p=>exact go F bk p
theorem oH.up{k:dg}{b:BS}{lr l:List Cell}{n:Nat}{h h':Heap}(q:oH k b lr n l h)(t:cy h h'):oH k b lr n l h':=by
 cases q with|mk _ bk p=>exact .mk _ (bk.up t) p
section
variable{k:dg}{b:BS}{g:Heap}{nt:Addr}
theorem mY{f c':Addr}{qual:Str}{params:Arguments}{body e:Expr}{scope:Scope}{cl:List (Str×Addr)}{pm ek:Value}{lr:List Cell}{vs:List Value}{is:List Nat}{nn dd:Nat}{s:Int}{p1 p2 p3:Pos}(G:Gd g)
  (ho:g.get? f=some (kla_obj "<lambda>" qual params body scope cl pm c' ek))(i8:g.CodeRec (.ref c') qual)(bB:bindArgs (kla_fn "<lambda>" qual params body scope cl pm (.ref c') ek) ⟨[],[]⟩=pure [])
  (g_:(ij (kla_fn "<lambda>" qual params body scope cl pm (.ref c') ek) [] []&&scope.names.all (λy=>y.2 !=.cell)&&!scope.isCoroutine&&!scope.isGenerator)=true)
  (bK:body= .Call (.Attribute (.Name (U "given") p1) (U "product") p2) [e] [] p3)
  (x0:∀Γ m l,Γ.env=callEnv (kla_fn "<lambda>" qual params body scope cl pm (.ref c') ek) Γ.L f->Px Γ m l g (.Name (U "given") p1) (.v (.ref nt)))(N:In w.params g nt 732 [(U "bank",.ref k.self)])
  (ha:∀Γ m l,Γ.env=callEnv (kla_fn "<lambda>" qual params body scope cl pm (.ref c') ek) Γ.L f->Co Γ 6 [] [] []->Px Γ m l g e (.l vs))
  (I:In w.params g k.self 638 k.al)(At:dS k)(bk:Bk k b.B b.ops b.args b.sorts b.ae b.xs g)(hz:b.B.length<=4900)(hi:IntsAre vs (bA is))(h0:is≠[])(h4:is.length<=4)(hs:s=1\/s=2)(ht:∀i∈is,aF b.B nn dd s i)(uM:1<=nn)(hn:nn<=700)
  (he:∀env,∃pl:Sem Bool,eval (.Call (.Attribute (.Name (U "given") p1) (U "product") p2) [e] [] p3) env=(do
   let ov <-eval (.Name (U "given") p1) env
   standAt p2.atName
   let(f,first) <-holding [ov] (getMethod ov (U "product") pl)
   callWith p3 f first (backTo p3 (starEach [e] env)) []))
  (B6:∀env,starEach [e] env=(false,eval e env)::starEach [] env):wy f 7 g (b.l k++lr) (Told k b lr is s) (oH k b lr (rests b.B is).length):=by
 refine tM (n:=6) (fm:=696) (ss:=[.l vs]) G ho i8 bB g_ bK x0 (Mt.eO G N (.tl (.tl (.tl .hd))) rfl) rfl rfl (λΓ m l hE C=>Pa.cons (ha Γ m l hE C) Pa.nil (B6 _)) (λA ρ G2 h R us gw wc hA x S a kg kb=>?_) (λl' h h' q t=>?_) he B6
 ·cases a with|cons a1 a2=>
  cases a2
  refine aU a1 λsa ak hl=>?_
  clear a1
  obtain rfl:=ak
  obtain⟨G3,x3,S3⟩:=x.front
  have bP:=S.trans S3
  refine mV (nt:=nt) (k:=k) (B:=b.B) x3 gw wc (G.up bP) (N.up bP) (I.up bP) At ((bk.lf bP).lf x3.sub) hA hz (hl.up S3) hi h0 h4 hs ht uM hn (λj t B' av ai af ag aO h' st b' pr=>?_) λhb e T h' st=>?_
  ·exact kg _ _ h' (Step.front x (l':=(BS.mk B' av ai af ag aO).l k) st) (.mk j t ⟨B',av,ai,af,ag,aO⟩ h' b' pr)
  ·have i7:=Step.front x (l':=X e T++b.l k) st
   replace i7:=(List.append_assoc ..)▸i7
   exact kb e T _ h' i7 (.mk h' ((bk.lf (bP.trans x3.sub)).up (st.aj x3 wc)) hb)
 ·cases q with|mk _ DA p=>exact .mk _ (DA.up t) p
end
theorem B7{nn:Nat}{s:Int}(qs:List (Int×Int))(m:Nat)(t:Int×Int)(a:Bt m t.1)(b:Bt m t.2)(c:0<t.2)(k:∀q∈qs,dD nn s q.1 q.2):aK (m+nn*qs.length) (qs.foldl jx t):=by
 induction qs generalizing m t with
 |nil=>exact⟨a,b,c⟩
 |cons q qs ih=>
  have l:=k q List.mem_cons_self
  have:=ih (m+nn) (jx t q) (a.mul l.ba) (b.mul l.bb) (Int.mul_pos c l.pos) λp hp=>k p (List.mem_cons_of_mem _ hp)
  rwa [Nat.add_assoc,Nat.add_comm nn,<-Nat.mul_succ] at this
theorem B8{nn:Nat}{s:Int}{qs:List (Int×Int)}(k:∀q∈qs,dD nn s q.1 q.2):aK (1+nn*qs.length) (bD qs):=B7 qs 1 (1,1) (c8 _ (by decide)) (c8 _ (by decide)) (by decide) k
theorem qD{nn:Nat}{s:Int}(hn:1<=nn){qs:List (Int×Int)}(k:∀q∈qs,dD nn s q.1 q.2):prodF qs=(cm (bD qs).1 (bD qs).2,bU (bD qs).1 (bD qs).2):=by
 have l:=c_ hn k
 refine i_ (dR λq hq=>(k q hq).pos) λs1 p1=>?_
 have h0:=Int.ne_of_gt p1
 refine i_ (ir l.pos (dK (bD qs).1 h0) l.Dr (EA (bD qs).1 h0) (cA h0 s1 (jq (c7 _ h0)))) λe1 e2=>?_
 exact Prod.ext e1 e2
theorem wC{nn:Nat}{s:Int}(hn:1<=nn){qs:List (Int×Int)}(k:∀q∈qs,dD nn s q.1 q.2)(e:(bD qs).1=(bD qs).2):prodF qs=(1,1):=by
 have l:=c_ hn k
 refine i_ (dR λq hq=>(k q hq).pos) λs1 p1=>?_
 unfold bx at s1
 replace s1:=(Int.mul_comm (bD qs).2 ..)▸e▸s1
 have h:=Int.eq_of_mul_eq_mul_right (Int.ne_of_gt p1) s1
 have c:=l.Dr
 replace c:=Int.gcd_self▸h▸c
 have p:=l.pos
 have d1:(prodF qs).2=1:=a8 (by assumption) (by assumption)
 exact Prod.ext (h.trans d1) d1
theorem cN.ext{B B':List Row}{is:List Nat}{s:Int}{j:Nat}(m:cN B is s j B'):Ext B B':=by
 rcases m with⟨_,m⟩|⟨_,_,_,_,_,m⟩ <;> exact m.ext
theorem cN.again{B B' Dt:List Row}{is:List Nat}{s:Int}{j j' nn:Nat}(hn:1<=nn)(h1:1<=B.length)(nd:B'.tail.Nodup)(hr:∀i∈is,∃r,B[i]? =some r)(k:∀q∈ay B is,dD nn s q.1 q.2)(m:cN B is s j B')(m':cN B' is.reverse s j' Dt):j'=j/\Dt=B':=by
 unfold cN at m'
 replace m':=(wa hn k)▸(iX m.ext hr)▸(jw m.ext hr)▸(zG ..)▸(gU ..)▸m'
 rcases m with⟨e,m⟩|⟨i,r,e,er,cZ,m⟩
 ·replace m':=e▸m'
  rcases m' with⟨_,m'⟩|⟨_,_,e',_⟩
  ·exact Mk.again h1 nd m m'
  ·cases e'
 ·replace m':=e▸m'
  rcases m' with⟨e',_⟩|⟨i',r',e',kx,SO,m'⟩
  ·cases e'
  ·replace e':=List.reverse_singleton▸e'
   obtain rfl:i=i':=(List.cons.inj e').1
   have:=m.ext.get er
   replace this:=kx▸this;cases this
   exact cH.again h1 nd cZ m m'
theorem lW{B:List Row}(e0:Ext bC B){i:Nat}{r:Row}{s:Int}(e:B[i]? =some r)(hs:r.2.2.1=s)(h:s=1\/s=2):1<=i:=by
 rcases i with _|i
 ·have:B[0]? =some ik:=e0.get rfl
  replace this:=e▸this
  cases this
  rcases h with rfl|rfl <;> cases hs
 ·lia
theorem cN.row{B B':List Row}{is:List Nat}{s:Int}{j nn dd:Nat}(e0:Ext bC B)(hs:s=1\/s=2)(ht:∀i∈is,aF B nn dd s i)(m:cN B is s j B'):1<=j/\∃r,B'[j]? =some r/\r.2.2.1=s:=by
 have h1:1<=B.length:=by
  refine aP e0 λC ak=>?_
  clear e0
  obtain rfl:=ak
  simp[bC]
 rcases m with⟨e,m⟩|⟨i,r,e,er,cZ,m⟩
 ·exact⟨m.pos h1,_,m.at,rfl⟩
 ·have hi:i∈is:=(List.mem_filter.mp (show i∈rests B is by refine e.symm▸?_;exact List.mem_cons_self)).1
  refine fF ((ht i hi).row) λr' kx j8 ζ=>?_
  replace kx:=er▸kx;cases kx
  refine aU (m.at er) λr2 e2 Dz=>?_
  have hj:=lW (e0.trans m.ext) e2 (Dz.trans j8) hs
  exact⟨hj,r2,e2,Dz.trans j8⟩
theorem cN.one{B B':List Row}{is:List Nat}{s:Int}{i j nn:Nat}(hn:1<=nn)(k:∀q∈ay B is,dD nn s q.1 q.2)(e:(bD (ay B is)).1=(bD (ay B is)).2)(hr:rests B is=[i])(m:cN B is s j B'):j=i:=by
 rcases m with⟨e',_⟩|⟨i',r,e',er,cZ,m⟩
 ·replace e':=hr▸e';cases e'
 ·replace e':=hr▸e'
  obtain rfl:i=i':=(List.cons.inj e').1
  replace m:=(wC hn k e)▸m
  rcases m with⟨h,_⟩|⟨_,_,_,h,_⟩|⟨_,h,_⟩
  ·exact absurd h cZ
  ·exact h
  ·exact absurd ⟨rfl,rfl⟩ h
theorem cN.worth{B B':List Row}{is:List Nat}{s:Int}{i j nn dd:Nat}{pt:Pt}{q:Int×Int}(hn:1<=nn)(PH:1+nn*4+nn<=3000)(h4:is.length<=4)(ht:∀i∈is,aF B nn dd s i)(k:∀q∈ay B is,dD nn s q.1 q.2)(hr:rests B is=[i])(m:cN B is s j B')(x:Wt B pt dd i (.inr q)):
  ∃q',Wt B' pt (dd+1) j (.inr q')/\q'.1*(q.2*(bD (ay B is)).2)=(q.1*(bD (ay B is)).1)*q'.2:=by
 rcases m with⟨e',_⟩|⟨i',r,e',er,cZ,m⟩
 ·replace e':=hr▸e';cases e'
 ·replace e':=hr▸e'
  obtain rfl:i=i':=(List.cons.inj e').1
  have hi:i∈is:=(List.mem_filter.mp (show i∈rests B is by refine hr.symm▸?_;exact List.mem_cons_self)).1
  refine fF ((ht i hi).row) λr' kx j8 uN=>?_
  replace kx:=er▸kx;cases kx
  have l:=c_ hn k
  have nY:(ay B is).length<=4:=Nat.le_trans (List.length_filterMap_le _ _) h4
  have AQ:1+nn*(ay B is).length<=1+nn*4:=by
   have:nn*(ay B is).length<=nn*4:=Nat.mul_le_mul_left _ nY
   lia
  refine aU (dZ m er uN j8 (l.mono AQ) hn (by lia) PH x) λq' y sm=>?_
  refine⟨q',y,?_⟩
  refine i_ (dR λq hq=>(k q hq).pos) λs1 p1=>?_
  have SP:0<q.2:=(show aK (wb dd) q from x.ok).2.2
  have:=cA (Int.ne_of_gt (Int.mul_pos SP l.pos)) sm (iY (same_refl q.1 q.2) s1)
  exact this
section
variable{W:WA}{A:Around}{b:BS}{g h:Heap}{R:Result->Heap->Prop}{ρ:List (Addr×Obj)}
noncomputable abbrev lq(x:String):Str:=Str.ofString x++Str.ofString ".<locals>."++Str.ofString "<lambda>"
theorem Px.is{Γ:Cx}{m:Str->Option Value}{l:List Cell}{e:Expr}{c c':Bool}(x:Px Γ m l g e (.v (.bool c)))(h:c=c'):Px Γ m l g e (.v (.bool c')):=h▸x
theorem dA.app{a:Addr}{p p':Obj->Prop}{l:List Cell}:∀l0:List Cell,dA a p p' (l0++(a,p)::l) (l0++(a,p')::l)
 |[]=>.hd
 |_::l0=>.tl (dA.app l0)
theorem uV(G:Gd g):CodeHd g 806 804:=⟨nA,_,_,_,_,_,_,_,_,G.k 128 rfl,rfl,rfl,rfl,rfl,rfl,rfl,rfl,rfl,by decide⟩
theorem ints_append{vs us:List Value}{is js:List Int}(x:IntsAre vs is)(y:IntsAre us js):IntsAre (vs++us) (is++js):=by
 induction x with
 |nil=>exact y
 |cons n t _ ih=>exact .cons n t ih
theorem qE{vs:List Value}{is:List Nat}(x:IntsAre vs (bA is)):IntsAre vs.reverse (bA is.reverse):=by
 induction is generalizing vs with
 |nil=>cases x;exact .nil
 |cons i is ih=>
  cases x with|cons n t x=>
  refine List.reverse_cons.symm▸List.reverse_cons.symm▸?_
  rw[bA]
  refine List.map_append.symm▸?_
  exact ints_append (ih x) (.cons _ t .nil)
noncomputable def mZ(B:List Row)(vs:List Value)(is:List Nat):List (Option Sp):=List.zipWith (λv i=>if(numAt B i).isNone then some (.v v) else none) vs is
theorem zS{B:List Row}{vs:List Value}{is:List Nat}{n i:Nat}{v:Value}(hv:vs[n]? =some v)(hi:is[n]? =some i):(mZ B vs is)[n]? =some (if(numAt B i).isNone then some (.v v) else none):=by
 unfold mZ
 refine List.getElem?_zipWith.symm▸hv.symm▸hi.symm▸?_
 rfl
theorem zT{B:List Row}{g:Heap}{vs:List Value}{is:List Nat}(x:IntsAre vs (bA is)){ys:List Value}(a:Ar g ((mZ B vs is).filterMap id) ys):IntsAre ys (bA (rests B is)):=by
 induction is generalizing vs ys with
 |nil=>cases x;cases a;exact .nil
 |cons i is ih=>
  cases x with|cons n t x=>
  unfold rests
  refine List.filter_cons.symm▸?_
  unfold mZ at a
  replace a:=List.zipWith_cons_cons▸a
  by_cases h:(numAt B i).isNone=true
  ·rw[if_pos h] at a ⊢
   simp only[List.filterMap_cons,id_eq] at a
   cases a with|cons p q=>
   obtain rfl:=p
   exact .cons _ t (ih x q)
  ·rw[if_neg h] at a ⊢
   simp only[List.filterMap_cons,id_eq] at a
   exact ih x a
theorem we.IW{Γ:Cx}{m:Str->Option Value}{l:List Cell}{e:Expr}{c c':Bool}(x:Pb Γ m l g e c)(h:c=c'):we Γ m l g [e] c':=h▸we.one x
theorem j9{sa pa p0 p1:Addr}{vs:List Value}{is:List Nat}{iF iG:Pt}{nn dd:Nat}{s:Int}{ps:Array Value}{lr:List Cell}(x:Gr ρ g h (b.l W.k++(804,Tb ps)::lr))(nt:eH ρ)(gw:Ao A ρ)(X:Wf W b (b.l W.k++(804,Tb ps)::lr) g)(Z:qY pa p0 p1 iF iG g)(hT:aM g (lq "_law_product_right") ps)(hA:Rm A 21)(hz:b.B.length<=4700)
  (hl:Ls g sa vs)(hi:IntsAre vs (bA is))(h0:is≠[])(h4:is.length<=4)(hs:s=1\/s=2)(ht:∀i∈is,aF b.B nn dd s i)(h1:1<=nn)(hn:nn<=500)(hd:dd<=6)
  (K:∀(b':BS) aI g2 h',Step ρ (b.l W.k++(804,Tb ps)::lr) h (b'.l W.k++(804,Tb aI)::lr) h'->Gr ρ g2 h' (b'.l W.k++(804,Tb aI)::lr)->Sub g g2->Wf W b' (b'.l W.k++(804,Tb aI)::lr) g2->aM g2 (lq "_law_product_right") aI->Ext b.B b'.B->b'.B.length<=b.B.length+10->R (.ok (.ret (.bool true))) h'):
  Cd A (.call (.ref 807) ⟨[.ref W.wd,.ref sa,.ref pa],[]⟩) R h:=by
 have G:=X.gd
 refine dG [(U "world",.ref W.wd),(U "points",.ref pa)] [U "told",U "rest",U "total",U "one",U "point",U "inner"] (λn=>[(U "given",n+2),(U "bank",n+1),(U "some",n)]) (λn=>[(n+2,none),(n+1,none),(n,some (.ref sa))]) (binds:=[(U "world",.ref W.wd),(U "some",.ref sa),(U "points",.ref pa)]) (ns:=[U "world",U "points",U "told",U "rest",U "total",U "one",U "point",U "inner"]) (gs:=[U "NumberTerms",U "_law_tried",U "len",U "_law_figures",U "ratio",U "_law_worth",U "_law_same"]) (r:=20) x nt G hA (gY G) (gZ G) rfl rfl rfl rfl (λn=>by k_extra "R") (λn=>by k_extra "R") (by kernel_rfl) (λn=>rfl) λΓ m g1 wX eX hE bS C P S F=>?_
 have hB:Ab Γ.A Γ.env Γ.L Γ.ρ:=by refine eX.symm▸?_;exact Ab.H7 gw hE bS C.ev
 have X1:=X.lf S
 replace F:Fv Γ g1 m ((Γ.L+1+2,Ce none)::(Γ.L+1+1,Ce none)::(Γ.L+1,Ce (some (.ref sa)))::(b.l W.k++(804,Tb ps)::lr)) wX:=F
 refine au ?_
 refine lU C F (by k_extra "v") (by k_extra "v") (λv1 v2 g2 h2 S2 F2 q1 q2=>?_) (by k_extra "R") (by refine hE.symm▸?_;k_extra "R") (by k_extra "R") (by k_extra "R")
 obtain rfl:v1= .ref W.k.self:=q1
 refine aU q2 λrb ak N=>?_
 clear q2
 obtain rfl:=ak
 refine dC C F2 (by k_extra "a") (by k_extra "c") λh3 F3=>?_
 refine dC C F3 (by k_extra "a") (by k_extra "c") λSQ F4=>?_
 obtain⟨g5,S5,kg,kb,ks,F5⟩:=Fx.MB F4
 have i4:=S2.trans S5
 replace N:=N.up S5
 clear F F2 F3 F4
 have X5:=X1.lf i4
 try dsimp only
 refine ab λQ1 gE=>?_
 refine aZ ?_ (by k_extra "R")
 have wZ:=bG hi
 have VP:(rests b.B is).length<=4:=Nat.le_trans (List.length_filter_le _ _) h4
 have fin2:∀(b2:BS) kB gF mF hF,Sub g gF->Fv Γ gF mF (b2.l W.k++(804,Tb kB)::lr) hF->aM gF (lq "_law_product_right") kB->Wf W b2 (b2.l W.k++(804,Tb kB)::lr) gF->Ext b.B b2.B->b2.B.length<=b.B.length+10->R (.ok (.ret (.bool true))) hF:=λb2 kB gF mF hF SF FF TF XF eF lF=>by
  obtain⟨IX,zU,y⟩:=Gr.out (L:=Γ.L) (m:=mF) x (eX▸(show Fx Γ.ρ gF Γ.L mF (b2.l W.k++(804,Tb kB)::lr) hF from FF)) SF
  exact K b2 kB IX hF (x.d5 eX FF SF) y (SF.trans zU) (XF.lf zU) (TF.up zU) eF lF
 have fin:∀(z:Nat) (t:Tok) (b':BS) aI g6 h6,Sub g5 g6->aM g6 (lq "_law_product_right") aI->Fv Γ g6 m (b'.l W.k++(804,Tb aI)::lr) h6->Bk W.k b'.B b'.ops b'.args b'.sorts b'.ae b'.xs h6->((1<(rests b.B is).length/\z=0/\b'=b)\/cN b.B is s z b'.B)->Wp Γ.A (storeName Γ.env (U "told") (.int (z:Int) t)) (λζ=>Q1 .next) (Lv Γ.A Γ.env R) h6:=λz t b' aI g6 h6 S6 T6 F6 m_ pr=>by
  have ex:Ext b.B b'.B/\b'.B.length<=b.B.length+2:=by
   rcases pr with⟨_,_,rfl⟩|⟨_,m⟩|⟨_,_,_,_,_,m⟩
   ·exact⟨.refl _,by k_extra "z"⟩
   ·exact⟨m.ext,by have:=m.len;k_extra "z"⟩
   ·exact⟨m.ext,m.len⟩
  have X6:=X5.next S6 C.nt F6 m_ ex.1 (by k_extra "z")
  have er:=jw ex.1 λi hi=>let⟨r,e,_⟩:=(ht i hi).row;⟨r,e⟩
  refine aA C F6 (by k_extra "a") λm7 h7 F7 M7=>?_
  refine gE.go ?_
  refine ab λQ2 iZ=>?_
  refine dj (mZ b'.B vs is) C F7 (xs:=vs) (s:=.l vs) (gs':=[]) (by k_extra "v") (by k_extra "a") (cl:=[(U "bank",Γ.L+1+1)]) (by simp) (by refine hE.symm▸?_;k_extra "R") (by refine hE.symm▸?_;k_extra "R") (by kernel_rfl) (by k_extra "z") (by unfold mZ;refine List.length_zipWith.symm▸?_;lia) (λi v qA mc lc g8 hv Cc Mc hM S8=>?_) λD ys g8 h8 m8 S8 F8 hD ar M8=>?_
  ·refine dm (cw hi i v hv) λj tj hj ak=>?_
   obtain rfl:=ak
   refine fF ((ht j (List.mem_of_getElem? hj)).row) λr er ζ uN=>?_
   have B2:=ex.1.get er
   have X8:=(X6.lf S8).more hM
   refine⟨_,zS hv hj,?_⟩
   by_cases cZ:r.1=U "num"
   ·refine dm (uN cZ) λa c q1 ζ=>?_
    refine(dF B2 cZ q1).symm▸?_
    exact .no (we.IW (by k_extra "b") (by simpa using cZ))
   ·refine(eU B2 cZ).symm▸?_
    exact .yes (we.IW (by k_extra "b") (by simpa using cZ)) (by k_extra "v") rfl
  ·have wD:=zT hi ar
   replace wD:=er▸wD
   have uL:=bG wD
   have X8:=X6.lf S8
   refine iZ.go ?_
   refine ab λQ3 lZ=>?_
   by_cases hr:1<(rests b.B is).length
   ·obtain⟨rfl,rfl⟩:z=0/\b'=b:=by
     rcases pr with⟨_,a,c⟩|⟨e,_⟩|⟨_,_,e,_⟩
     ·exact⟨a,c⟩
     ·replace hr:=e▸hr;simp at hr
     ·replace hr:=e▸hr;simp at hr
    refine b9 F8 (by k_extra "b") (by simp[bM];lia) λg9 h9 S9 F9=>?_
    refine ab λQ4 l7=>?_
    have Ij:=qE hi
    refine bJ (yy ((Px.is (c':=true) (by k_extra "v") (by simp[bM])).go _ _ g9 h9 (Sub.refl _) F9 λv ga VQ Sa Fa q=>?_))
    obtain rfl:v= .bool true:=q
    refine bu (C7 (yz (gH ?_ (by k_extra "R"))))
    have B9:Sub g5 ga:=by k_extra "q"
    refine i3 (n:=7) (qual:=lq "_law_product_right") (T:=804) (ps:=aI) (l':=λaI=>b'.l W.k++(804,Tb aI)::lr) (P:=λaI=>Told W.k b' ((804,Tb aI)::lr) is.reverse s) (B:=λaI=>oH W.k b' ((804,Tb aI)::lr) (rests b'.B is.reverse).length)
     C Fa (X5.gd.up B9) hB (by k_extra "a") (by decide) (by rw[hE];k_extra "R") (by k_extra "R") (by rw[hE];rfl) (uV (X5.gd.up B9)) (by decide) (by decide) (λaI=>dA.app _) (T6.up (S8.trans (S9.trans Sa))) (by rw[hE];k_extra "R") (λf c' pm ek aI gb Sb hf hc=>?_) (λaI l' h h' q t=>?_) (λv kB l6 gb hb Sb Tb Fb qb=>?_) (λt2 kB l6 gb hb Sb Tb Fb qb=>?_) (by k_extra "R") (by k_extra "R")
    ·exact mY (nt:=rb) ((X5.gd.up B9).up Sb) hf hc (by rfl) (by kernel_rfl) rfl (λFp m2 l2 gW=>Px.free (c:=Γ.L+1+2) (by refine gW.symm▸?_;rfl) (by refine gW.symm▸?_;k_extra "R") (by decide +kernel) (by refine gW.symm▸?_;k_extra "R") ((kg.up B9).up Sb)) ((N.up B9).up Sb)
      (λFp m2 l2 gW C2=>Px.rev (Px.qZ (Px.free (c:=Γ.L+1) (by refine gW.symm▸?_;rfl) (by refine gW.symm▸?_;k_extra "R") (by decide +kernel) (by refine gW.symm▸?_;k_extra "R") ((ks.up B9).up Sb)) ((((hl.up S).up i4).up B9).up Sb)) (by k_extra "v") (by k_extra "z") (by intro _ _;k_extra "R")) ((X5.wo.inst.up B9).up Sb) X.d4 ((X5.bk.lf B9).lf Sb) (by k_extra "z") Ij (by simpa using h0) (by simpa using h4) hs (λi hi=>ht i (List.mem_reverse.mp hi)) h1 (by k_extra "z") (λζ=>⟨_,rfl⟩) (λζ=>rfl)
    ·exact q.up t
    ·refine qb.go Fb λj tj b2 ev Fb m_ p=>?_
     clear ev
     rcases p with⟨e,_⟩|⟨_,_,e,_⟩
     ·replace e:=(gU ..)▸e;replace hr:=(List.reverse_eq_nil_iff.mp e)▸hr;simp at hr
     ·have:=congrArg List.length e
      replace this:=List.length_reverse▸(gU ..)▸this
      simp at this;lia
    ·refine qb.go Fb λFb m_ p=>?_
     refine dT λt3=>vg ?_
     refine l7.ret (lZ.ret (ah ?_))
     exact fin2 b' kB gb m8 hb (by k_extra "q") Fb Tb (X5.next (by k_extra "q") C.nt Fb m_ (.refl _) (by k_extra "z")) (.refl _) (by k_extra "z")
   replace pr:cN b.B is s z b'.B:=by
    rcases pr with⟨a,_⟩|pr
    ·exact absurd a hr
    ·exact pr
   have lo:=lR ht
   have VR:∀q∈ay b'.B is,dD nn s q.1 q.2:=by refine(iX ex.1 λi hi=>let⟨r,e,_⟩:=(ht i hi).row;⟨r,e⟩).symm▸?_;exact lo
   have DB:ay b'.B is=ay b.B is:=iX ex.1 λi hi=>let⟨r,e,_⟩:=(ht i hi).row;⟨r,e⟩
   have nY:(ay b.B is).length<=4:=Nat.le_trans (gA _ _) h4
   have nc:∀n,aK 4000 (bD ((ay b.B is).take n)):=λn=>(B8 (nn:=nn) (s:=s) λq hq=>lo q (List.mem_of_mem_take hq)).mono (by
    have h5:((ay b.B is).take n).length<=4:=Nat.le_trans (List.length_take_le' _ _) nY
    have:nn*((ay b.B is).take n).length<=nn*4:=Nat.mul_le_mul_left _ h5
    lia)
   refine aN F8 (by k_extra "b") (by simp[bM];lia) λg9 h9 S9 F9=>?_
   have X9:=X8.lf S9
   refine aB (lZ.go ?_)
   refine ab λQ4 l7=>?_
   refine aH C F9 (by k_extra "a") (Px.pair C.nt Px.int Px.int (by k_extra "R") (by k_extra "R")) (λvt oF j7 oE ft fC GB wu=>?_) (by k_extra "R")
   refine l7.go ?_
   refine ab λQ5 q_=>?_
   have AS:Ps oF [(U "world",.ref W.wd),(U "points",.ref pa),(U "told",.int (z:Int) t),(U "rest",.ref D)]:=.cons (by k_extra "w") (.cons (by k_extra "w") (.cons (by k_extra "w") (.cons (by k_extra "w") (.nil _))))
   have Fq:=X9.lf ft
   refine oy (qs:=ay b'.B is) (λn g m=>Ps m [(U "world",.ref W.wd),(U "points",.ref pa),(U "told",.int (z:Int) t),(U "rest",.ref D)]/\∃vt,m (U "total")=some vt/\aW g vt (.inr (bD ((ay b.B is).take n)))) C fC
    (Px.fn C Fq.gd (by k_extra "a") (by k_extra "a") (by k_extra "R") (by k_extra "R") (Pa.cons (by k_extra "v") (Pa.cons (by k_extra "v") Pa.nil (by k_extra "R")) (by k_extra "R")) (mX Fq (by k_extra "r") (sa:=sa) (((hl.up S).up i4).up (by k_extra "q")) hi (λi hi=>let⟨r,e,_,hn⟩:=(ht i hi).row;⟨r,ex.1.get e,hn⟩) (by k_extra "z")) (by k_extra "R") (by k_extra "R")) (by k_extra "a") (λga Sa=>⟨AS,vt,St.hd wu,aW.up Sa.aj GB⟩) ?_ ?_
   ·rintro n v ma mb ga ha c Q6 ⟨⟨q1,q2⟩,eq,pq⟩ Sa Fa ⟨MG,zV,et,pt⟩ Mb kn kr
    replace eq:=DB▸eq
    have Fs:=lo _ (List.mem_of_getElem? eq)
    have pv:aW ga zV (.inr ((bD ((ay b.B is).take n)).1,(bD ((ay b.B is).take n)).2)):=pt
    have hp:=nc n
    refine ab λQ7 mW=>?_
    refine aH C Fa (by k_extra "a") (Px.pair C.nt (Px.mul (n:=4000) (k:=700) (by k_extra "v") (by k_extra "v") hp.1 (Fs.ba.mono (by k_extra "z")) (by decide)) (Px.mul (n:=4000) (k:=700) (by k_extra "v") (by k_extra "v") hp.2.1 (Fs.bb.mono (by k_extra "z")) (by decide)) (by k_extra "R") (by k_extra "R")) (λvc mc gc hc Sc Fc qc Mc=>?_) (by k_extra "R")
    refine mW.go (aB ?_)
    refine kn mc gc hc Sc Fc ⟨(MG.st Mb (by kernel_rfl)).st Mc (by kernel_rfl),vc,St.hd Mc,?_⟩
    refine(take_snoc eq).symm▸(mU ..).symm▸?_
    exact qc
   ·rintro AU SR iU nh iE IY iA ⟨DC,zV,et,pt⟩
    replace pt:=List.take_length▸DB▸pt
    have pt:aW iU zV (.inr ((bD (ay b.B is)).1,(bD (ay b.B is)).2)):=aW.lf pt IY
    obtain⟨z1,r1,Ft,AM⟩:=pr.row X.e0 hs ht
    have hf:=nc (ay b.B is).length
    replace hf:=List.take_length▸hf
    obtain⟨i0,t0,IC,J5⟩:∃i0 t0,is[0]? =some i0/\vs[(0:Int).toNat]? =some (.int ((i0:Nat):Int) t0):=by
     have lS:0<vs.length:=by refine wZ.symm▸?_;exact List.length_pos_iff.mpr h0
     refine dm (cw hi 0 vs[0] (by simp[lS])) λi0 t0 e1 e2=>?_
     exact⟨i0,t0,e1,by simp[lS,e2]⟩
    refine fF ((ht i0 (List.mem_of_getElem? IC)).row) λr0 DD zW ζ=>?_
    have DD:=ex.1.get DD
    have i5:=(Fq.lf iE).lf IY
    have Fu:Ls iU sa vs:=((hl.up S).up i4).up (by k_extra "q")
    clear AS GB wu nc
    refine q_.go ?_
    refine ab λQ6 wm=>?_
    refine ve (kG (Pb.go (b:=bM .Eq z 0) (by k_extra "b") _ _ iU nh (Sub.refl _) iA λga ha Sa Fa=>?_))
    refine bL (by simp[bM];lia) ?_
    refine kG (Pb.go (b:=bM .NotEq r1.2.2.1 r0.2.2.1) (by k_extra "b") _ _ ga ha (Sub.refl _) Fa λgb Pr Sb Fb=>?_)
    rw[if_neg (by simp[bM,AM,zW])]
    have Ij:=qE hi
    have N5:=N
    refine kG (c5 (di C Fb (i5.gd.up (Sa.trans Sb)) (f:=696) (Px.cell C (v:=.ref rb) (by k_extra "a") (by k_extra "u")) (λv gc Sc q=>⟨rb,q,Mt.eO ((i5.gd.up (Sa.trans Sb)).up Sc) (N.up (by k_extra "q")) (by k_extra "a") rfl⟩) (by k_extra "R") (by k_extra "R")
     (Pa.cons (s:=.l vs.reverse) (by k_extra "v") Pa.nil (by k_extra "R")) (λgc hc Sc Fc VS ni=>?_) (by k_extra "R") (by k_extra "R")) (by k_extra "R"))
    have Xc:=((i5.lf Sa).lf Sb).lf Sc
    have B_:Fx Γ.ρ gc Γ.L AU (b'.l W.k++(804,Tb aI)::lr) hc:=Fc
    obtain⟨oL,G4,eL,x4,S4⟩:=Fx.BF (l₀:=[]) B_
    obtain⟨G5,x5,MH⟩:=Gr.front (l:=b'.l W.k) x4
    have B4:eH ((Γ.L,oL)::Γ.ρ):=λp hp=>by
     rcases List.mem_cons.mp hp with rfl|hp
     ·exact aS B_.ns eL
     ·exact C.nt p hp
    have zX:=S4.trans MH
    refine Wp.call (mV (nt:=rb) (k:=W.k) (B:=b'.B) (is:=is.reverse) (s:=s) (nn:=nn) (dd:=dd) x5 (hB.ao B_ eL) B4 (Xc.gd.up zX) ((N.up (by k_extra "q")).up zX) (Xc.wo.inst.up zX) X.d4 ((Xc.bk.lf zX).lf x5.sub) (C.rm.less (by decide)) (by have:=ex.2;k_extra "z") (ni.up zX) Ij (by simpa using h0) (by simpa using h4) hs (λi hi=>(ht i (List.mem_reverse.mp hi)).ext ex.1) h1 (by k_extra "z") (λj t2 B' av ai af ag aO hd2 st DA PJ=>?_) λFw=>?_)
    ·refine i_ (cN.again h1 (by have:=(List.getElem?_eq_some_iff.mp DD).1;have:=X.e0;obtain⟨C',e⟩:=this;refine e.symm▸?_;simp[bC]) (by have:=Xc.bk.nd;refine Xc.bk.same▸?_;exact this) (λi hi=>let⟨r,e,_⟩:=(ht i hi).row;⟨r,e⟩) lo pr PJ) λej eB=>?_
     subst ej
     have i7:=Step.front x4 (l':=(BS.mk B' av ai af ag aO).l W.k) st
     obtain⟨gd,Sd,Fd⟩:=Fx.jr (l₀:=[]) B_ eL i7
     generalize Fy:(BS.mk B' av ai af ag aO)=b2 at Fd
     have GC:b2.B=b'.B:=by refine Fy▸?_;exact eB
     have SU:Bk W.k b2.B b2.ops b2.args b2.sorts b2.ae b2.xs hd2:=by refine Fy▸?_;exact DA
     clear st i7 DA Fy x4 x5 PJ
     have Xd:=Xc.next Sd C.nt Fd SU (by refine GC.symm▸?_;exact .refl _) (by refine GC.symm▸?_;have:=ex.2;k_extra "z")
     refine Px.go (by k_extra "v":Px Γ AU (b2.l W.k++(804,Tb aI)::lr) gd _ (.i (j:Int))) _ _ gd hd2 (Sub.refl _) Fd λv ge Dj Se Fe q=>?_
     refine aP q λt3 ak=>?_
     clear q
     obtain rfl:=ak
     refine Ba (bu ?_)
     refine bL (by simp) ?_
     refine nH (uo (aB (wm.go ?_)))
     refine ab λQ7 mW=>?_
     have Xe:=Xd.lf Se
     have Ft:b2.B[j]? =some r1:=by refine GC.symm▸?_;exact Ft
     have Pe:=DC
     have pr:cN b.B is s j b2.B:=by refine GC.symm▸?_;exact pr
     have qF:Ext b.B b2.B/\b2.B.length<=b.B.length+2:=by refine GC.symm▸?_;exact ex
     have VT:aW ge zV (.inr ((bD (ay b.B is)).1,(bD (ay b.B is)).2)):=by k_extra "u"
     have VU:Ls ge D ys:=by k_extra "u"
     have Te:aM ge (lq "_law_product_right") aI:=T6.up (by k_extra "q")
     have Ka:True->Sub g ge:=λζ=>by k_extra "q"
     clear Fc B_ Fd iA Fa Fb fC F9 F8 F7 F6 i5 Fq X9 X8 X6 Xc Xd pt DC GC Fu
     by_cases he:rests b.B is=[]
     ·have MI:ys=[]:=List.eq_nil_of_length_eq_zero (by refine uL.symm▸he.symm▸?_;rfl)
      subst MI
      obtain⟨MJ,Ic⟩:r1.1=U "num"/\r1.2.2.2= .inr (prodF (ay b.B is)):=by
       rcases pr with⟨_,m⟩|⟨_,_,e,_⟩
       ·have e1:=m.at
        replace e1:=Ft▸e1
        cases e1
        exact⟨rfl,rfl⟩
       ·replace e:=he▸e;cases e
      have ip:(bD (ay b.B is)).2≠0:=Int.ne_of_gt hf.2.2
      have SV:Bt 9000 (bD (ay b.B is)).2:=hf.2.1.mono (by decide)
      refine b9 Fe (Pb.cmp (s:=.l []) (t:=.l []) (by k_extra "v") (Px.B5 (by k_extra "R")) (Kc.zR (C.rm.less (by decide)) λζ ζ=>.ints wD) (by k_extra "R")) rfl λgf Kd Sf Ff=>?_
      refine ab λQ8 uQ=>?_
      refine bR Ff (Px.and (by k_extra "v") λζ=>Px.one (by k_extra "v")) λv gg hg Sg Fg q=>?_
      obtain rfl:v= .bool true:=by
       refine(show v=_ from q).symm▸MJ.symm▸(qD h1 lo).symm▸?_
       simp
      refine uQ.ret (mW.ret (ah ?_))
      exact fin2 b2 aI gg AU hg ((Ka trivial).trans (Sf.trans Sg)) Fg (Te.up (Sf.trans Sg)) ((Xe.lf Sf).lf Sg) qF.1 (by have:=qF.2;k_extra "z")
     ·refine aP (List.length_eq_one_iff.mp (by have:=List.length_pos_iff.mpr he;lia):∃i1,rests b.B is=[i1]) λi1 Du=>?_
      replace wD:=Du▸wD
      obtain⟨t1,rfl⟩:∃t1,ys=[.int (i1:Int) t1]:=by
       cases wD with|cons _ t1 y=>cases y;exact⟨t1,rfl⟩
      have SW:=ht i1 (List.mem_filter.mp (show i1∈rests b.B is by refine Du.symm▸?_;exact List.mem_cons_self)).1
      refine aN Fe (Pb.cmp (s:=.l [.int (i1:Int) t1]) (t:=.l []) (by k_extra "v") (Px.B5 (by k_extra "R")) (Kc.zR (C.rm.less (by decide)) λζ ζ=>.ints wD) (by k_extra "R")) rfl λgf Kd Sf Ff=>?_
      refine aB (mW.go ?_)
      refine ab λQ8 uQ=>?_
      refine aN Ff (by k_extra "b") ?_ λgg hg Sg Fg=>?_
      ·by_cases e:(bD (ay b.B is)).1=(bD (ay b.B is)).2
       ·have ej:=pr.one h1 lo e Du
        simp[bM,ej]
       ·simp[bM,e]
      refine aB (uQ.go ?_)
      refine ab λQ9 zO=>?_
      have Xg:=(Xe.lf Sf).lf Sg
      refine tJ (kvs:=[(U "world",.ref W.wd),(U "told",.int (j:Int) t),(U "rest",.ref D),(U "total",zV)]) C Fg (by k_extra "v") (Z.ls.up (((Ka trivial).trans Sf).trans Sg)) (by k_extra "a") (.cons (by k_extra "w") (.cons (by k_extra "w") (.cons (by k_extra "w") (.cons (by k_extra "w") (.nil _))))) (by kernel_rfl) (λn v uW jP wF c Qb hv dh dY DE PK kn kr=>?_) λuW jP wF dh dY DE=>?_
      ·refine fv ((Z.lf ((((Ka trivial).trans Sf).trans Sg).trans dh)).get hv) λp pt ak Pp ok=>?_
       obtain rfl:=ak
       obtain⟨⟨a,c1⟩,xq⟩:=SW.worth pt ok
       refine aU (pr.worth h1 (by lia) h4 ht lo Du xq) λq' IM Fo=>?_
       have IP:=xq.ext qF.1
       have r1:=IP.rat (by k_extra "z")
       have r2:=(IM.rat (by k_extra "z")).mono (show 20000000<=67108864 by decide)
       have MK:Bt 20000000 a:=r1.1
       have ML:Bt 20000000 c1:=r1.2.1
       have MM:Bt 20000000 (bD (ay b.B is)).1:=hf.1.mono (by decide)
       have MN:Bt 20000000 (bD (ay b.B is)).2:=hf.2.1.mono (by decide)
       have r3:aK 67108864 (a*(bD (ay b.B is)).1,c1*(bD (ay b.B is)).2):=⟨(MK.mul MM).mono (by decide),(ML.mul MN).mono (by decide),Int.mul_pos r1.2.2 hf.2.2⟩
       have l8:=(Xg.lf dh).more (l':=c::(b2.l W.k++(804,Tb aI)::lr)) λz hz=>List.mem_cons_of_mem _ hz
       refine ab λQc uS=>?_
       refine aH C dY (by k_extra "a") (by k_extra "v") (λMO IZ jz o4 bP eD Ke Fz=>?_) (by k_extra "R")
       have Ke:aW jz MO (.inr (a,c1)):=Ke
       refine uS.go ?_
       refine ab λQd FA=>?_
       refine aN eD (by k_extra "b") ?_ λAV zY dy mB=>?_
       ·simpa using Fo
       refine aB (FA.go (aB ?_))
       exact kn IZ AV zY (bP.trans dy) mB (DE.st Fz (by kernel_rfl))
      ·refine zO.go ?_
       refine ab λQc uS=>?_
       refine bR dY Px.bool λv jz o4 bP eD q=>?_
       obtain rfl:v= .bool true:=q
       refine uS.ret (ah ?_)
       exact fin2 b2 aI jz uW o4 (((((Ka trivial).trans Sf).trans Sg).trans dh).trans bP) eD (Te.up (Sf.trans (Sg.trans (dh.trans bP)))) ((Xg.lf dh).lf bP) qF.1 (by have:=qF.2;k_extra "z")
    ·exfalso
     replace Fw:=List.length_reverse▸(gU ..)▸(jw ex.1 (λi hi=>let⟨r,e,_⟩:=(ht i (List.mem_reverse.mp hi)).row;⟨r,e⟩))▸Fw
     exact hr Fw
 refine i3 (n:=7) (qual:=lq "_law_product_right") (T:=804) (ps:=ps) (l':=λaI=>b.l W.k++(804,Tb aI)::lr) (P:=λaI=>Told W.k b ((804,Tb aI)::lr) is s) (B:=λaI=>oH W.k b ((804,Tb aI)::lr) (rests b.B is).length)
  C F5 X5.gd hB (by k_extra "a") (by decide) (by rw[hE];k_extra "R") (by k_extra "R") (by rw[hE];rfl) (uV X5.gd) (by decide) (by decide) (λaI=>dA.app _) ((hT.up S).up i4) (by rw[hE];k_extra "R") (λf c' pm ek aI g6 S6 hf hc=>?_) (λaI l' h h' q t=>?_) (λv aI l6 g6 h6 S6 T6 F6 q6=>?_) (λt aI l6 g6 h6 S6 T6 F6 q6=>?_) (by k_extra "R") (by k_extra "R")
 ·exact mY (nt:=rb) (X5.gd.up S6) hf hc (by rfl) (by kernel_rfl) rfl (λFp m2 l2 gW=>Px.free (c:=Γ.L+1+2) (by refine gW.symm▸?_;rfl) (by refine gW.symm▸?_;k_extra "R") (by decide +kernel) (by refine gW.symm▸?_;k_extra "R") (kg.up S6)) (N.up S6)
   (λFp m2 l2 gW C2=>Px.qZ (Px.free (c:=Γ.L+1) (by refine gW.symm▸?_;rfl) (by refine gW.symm▸?_;k_extra "R") (by decide +kernel) (by refine gW.symm▸?_;k_extra "R") (ks.up S6)) (((hl.up S).up i4).up S6)) (X5.wo.inst.up S6) X.d4 (X5.bk.lf S6) (by k_extra "z") hi h0 h4 hs ht h1 (by k_extra "z") (λζ=>⟨_,rfl⟩) (λζ=>rfl)
 ·exact q.up t
 ·refine q6.go F6 λj tj b' ev F6 m_ pr=>?_
  subst ev
  exact fin j tj b' aI g6 h6 S6 T6 F6 m_ (.inr pr)
 ·exact q6.go F6 λF6 m_ p=>fin 0 t b aI g6 h6 S6 T6 F6 m_ (.inl ⟨p,rfl,rfl⟩)
end
noncomputable def jA(q v:Int×Int):Int×Int:=(cm (q.1*v.2) (q.2*v.1),bU (q.1*v.2) (q.2*v.1))
noncomputable def j_(q:Int×Int)(vs:List (Int×Int)):Int×Int:=vs.foldl jA q
noncomputable def sg(a:Int):Int:=if 0<a then 1 else -1
noncomputable def qG(t v:Int×Int):Int×Int:=(t.1*v.2*sg v.1,t.2*v.1*sg v.1)
noncomputable def cg(vs:List (Int×Int)):Int×Int:=vs.foldl qG (1,1)
theorem jB(q:Int×Int)(vs:List (Int×Int))(v:Int×Int):j_ q (vs++[v])=jA (j_ q vs) v:=by unfold j_;refine List.foldl_append.symm▸?_;rfl
theorem jC(vs:List (Int×Int))(v:Int×Int):cg (vs++[v])=qG (cg vs) v:=by unfold cg;refine List.foldl_append.symm▸?_;rfl
theorem FD{a:Int}(h:a≠0):0<a*sg a:=by unfold sg;split <;> lia
theorem zZ(a:Int):(sg a).natAbs=1:=by unfold sg;split <;> rfl
theorem Bt.sg{n:Nat}{a b:Int}(h:Bt n a):Bt n (a*sg b):=by
 unfold Bt at*
 refine(Int.natAbs_mul ..).symm▸(zZ ..).symm▸(Nat.mul_one ..).symm▸?_;exact h
theorem z7{n m:Nat}{q v:Int×Int}{s:Int}(hq:dD n 2 q.1 q.2)(hv:dD m s v.1 v.2)(h0:v.1≠0):dD (n+m) 2 (jA q v).1 (jA q v).2:=
 gR (Int.mul_ne_zero (Int.ne_of_gt hq.pos) h0) (λq=>by cases q) (hq.ba.mul hv.bb) (hq.bb.mul hv.ba)
theorem wG{q v t:Int×Int}(hq:0<q.2)(h0:v.1≠0)(h:bx q.1 q.2 t.1 t.2):bx (jA q v).1 (jA q v).2 (qG t v).1 (qG t v).2:=by
 have h1:q.2*v.1≠0:=Int.mul_ne_zero (Int.ne_of_gt hq) h0
 refine cA h1 (c7 _ h1) ?_
 show bx (q.1*v.2) (q.2*v.1) (t.1*v.2*sg v.1) (t.2*v.1*sg v.1)
 have:=iY h (show bx v.2 v.1 (v.2*sg v.1) (v.1*sg v.1) by unfold bx;rw[Int.mul_assoc,Int.mul_comm (sg v.1),Int.mul_comm v.1 (sg v.1)];)
 replace this:=(Int.mul_assoc ..).symm▸(Int.mul_assoc ..).symm▸this
 exact this
theorem z9{vs:List (Int×Int)}(h0:∀v∈vs,v.1≠0):0<(cg vs).2:=by
 have key:∀(vs:List (Int×Int)) (t:Int×Int),(∀v∈vs,v.1≠0)->0<t.2->0<(vs.foldl qG t).2:=λvs=>by
  induction vs with
  |nil=>intro t _ h;exact h
  |cons v vs ih=>
   intro t k h
   refine ih _ (λu hu=>k u (List.mem_cons_of_mem _ hu)) ?_
   show 0<t.2*v.1*sg v.1
   refine(Int.mul_assoc ..).symm▸?_
   exact Int.mul_pos h (FD (k v List.mem_cons_self))
 exact key vs (1,1) h0 (by decide)
theorem Cb{nn:Nat}{vs:List (Int×Int)}{s:Int}(k:∀v∈vs,dD nn 2 v.1 v.2\/dD nn s v.1 v.2)(h0:∀v∈vs,v.1≠0):aK (1+nn*vs.length) (cg vs):=by
 have key:∀(vs:List (Int×Int)) (m:Nat) (t:Int×Int),(∀v∈vs,dD nn 2 v.1 v.2\/dD nn s v.1 v.2)->Bt m t.1->Bt m t.2->Bt (m+nn*vs.length) (vs.foldl qG t).1/\Bt (m+nn*vs.length) (vs.foldl qG t).2:=λvs=>by
  induction vs with
  |nil=>intro m t _ a b;exact⟨by simpa using a,by simpa using b⟩
  |cons v vs ih=>
   intro m t k a b
   have lv:Bt nn v.1/\Bt nn v.2:=(k v List.mem_cons_self).elim (λl=>⟨l.ba,l.bb⟩) λl=>⟨l.ba,l.bb⟩
   have:=ih (m+nn) (qG t v) (λu hu=>k u (List.mem_cons_of_mem _ hu)) (Bt.sg (a.mul lv.2)) (Bt.sg (b.mul lv.1))
   refine List.foldl_cons.symm▸List.length_cons.symm▸?_
   rwa [show m+nn*(vs.length+1)=m+nn+nn*vs.length by refine(Nat.mul_add ..).symm▸?_;lia]
 have:=key vs 1 (1,1) k (c8 _ (by decide)) (c8 _ (by decide))
 exact⟨this.1,this.2,z9 h0⟩
inductive qH(B0:List Row)(i0:Nat)(r0:Row)(nn dd:Nat)(vs:List (Int×Int))(B:List Row)(j:Nat):Prop
 |num (q0:Int×Int) (r:Row) (h:r0.1=U "num") (hd:r0.2.2.2= .inr q0) (e:B[j]? =some r) (e1:r.1=U "num") (e2:r.2.2.1=2) (e3:r.2.2.2= .inr (j_ q0 vs)) (l:dD (nn+nn*vs.length) 2 (j_ q0 vs).1 (j_ q0 vs).2) (sm:bx (j_ q0 vs).1 (j_ q0 vs).2 (q0.1*(cg vs).1) (q0.2*(cg vs).2))
 |FE (r:Row) (h:r0.1≠U "num") (e:B[j]? =some r) (hr:r.1≠U "num") (hs:r.2.2.1=r0.2.2.1) (h0:vs=[]->j=i0) (wt:∀pt,n9 pt->∀q,Wt B0 pt dd i0 (.inr q)->∃q',Wt B pt (dd+vs.length) j (.inr q')/\bx q'.1 q'.2 (q.1*(cg vs).1) (q.2*(cg vs).2))
theorem oI{n:Nat}{s a b:Int}(l:dD n s a b):dD n 2 a b:=⟨l.pos,l.Dr,(λq=>by cases q),l.ba,l.bb⟩
theorem qH.start{B B':List Row}{i j:Nat}{r:Row}{nn dd:Nat}(e:B[i]? =some r)(hs:r.2.2.1=1\/r.2.2.1=2)(hn:ju nn r)(ha:zv B i r j B'):qH B i r nn dd [] B' j/\Ext B B'/\B'.length<=B.length+1:=by
 rcases ha with⟨hr,_,a,c,hd,m⟩|⟨h,rfl,rfl⟩
 ·refine dm (hn hr) λa' c' mn l=>?_
  replace mn:=hd▸mn;cases mn
  exact⟨.num (a,c) _ hr hd m.at rfl rfl rfl (by simpa[j_] using oI l) (by simp[j_,cg,bx]),m.ext,by have:=m.len;lia⟩
 ·refine⟨?_,.refl _,by lia⟩
  by_cases hr:r.1=U "num"
  ·refine dm (hn hr) λa c hd l=>?_
   exact .num (a,c) r hr hd e hr (hs.resolve_left λq=>h ⟨hr,q⟩) hd (by simpa[j_] using oI l) (by simp[j_,cg,bx])
  ·exact .FE r hr e hr rfl (λζ=>rfl) λpt ζ q x=>⟨q,by simpa using x,by simp[cg,bx]⟩
theorem qH.MP{B0 B B':List Row}{i0 j j':Nat}{r0:Row}{nn dd:Nat}{vs:List (Int×Int)}{v q:Int×Int}{s:Int}{r:Row}(f:qH B0 i0 r0 nn dd vs B j)(er:B[j]? =some r)(hr:r.1=U "num")(hq:r.2.2.2= .inr q)(hv:dD nn s v.1 v.2)(h0:v.1≠0)(Kf:∀u∈vs,u.1≠0)(m:Mk B (U "num",[],2,.inr (jA q v)) j' B'):qH B0 i0 r0 nn dd (vs++[v]) B' j':=by
 cases f with
 |num q0 r' h hd e e1 e2 e3 l sm=>
  replace e:=er▸e;cases e
  replace e3:=hq▸e3;cases e3
  refine .num q0 _ h hd m.at rfl rfl (by rw[jB]) ?_ ?_
  ·refine(jB ..).symm▸List.length_append.symm▸List.length_singleton.symm▸?_
   have:=z7 l hv h0
   rwa [show nn+nn*vs.length+nn=nn+nn*(vs.length+1) by refine(Nat.mul_add ..).symm▸?_;lia] at this
  ·refine(jB ..).symm▸(jC ..).symm▸?_
   have:=wG (t:=(q0.1*(cg vs).1,q0.2*(cg vs).2)) l.pos h0 sm
   show bx _ _ (q0.1*((cg vs).1*v.2*sg v.1)) (q0.2*((cg vs).2*v.1*sg v.1))
   refine(Int.mul_assoc ..)▸(Int.mul_assoc ..)▸(Int.mul_assoc ..)▸(Int.mul_assoc ..)▸?_
   exact this
 |FE r' h e AP hs h1 wt=>
  replace e:=er▸e;cases e
  exact absurd hr AP
theorem qH.MQ{B0 B B':List Row}{i0 j j':Nat}{r0:Row}{nn dd:Nat}{vs:List (Int×Int)}{v:Int×Int}{s:Int}{r:Row}(f:qH B0 i0 r0 nn dd vs B j)(er:B[j]? =some r)(hr:r.1≠U "num")(hv:dD nn s v.1 v.2)(h0:v.1≠0)(h1:1<=nn)(hn:nn<=1000)(fZ:r.2.2.1=2)(m:cH B (cm (1*v.2) (1*v.1)) (bU (1*v.2) (1*v.1)) j r j' B'):qH B0 i0 r0 nn dd (vs++[v]) B' j':=by
 cases f with
 |num q0 r' h hd e e1 e2 e3 l sm=>
  replace e:=er▸e;cases e
  exact absurd e1 hr
 |FE r' h e AP hs h2 wt=>
  replace e:=er▸e;cases e
  have ip:(1*v.1:Int)≠0:=by refine(Int.one_mul ..).symm▸?_;exact h0
  refine aU (m.at er) λr2 e2 Dz=>?_
  have IA:r2.1≠U "num":=by
   rcases m with⟨q,_⟩|⟨_,_,_,rfl,rfl⟩|⟨_,_,dB,dP,m1,m2⟩
   ·exact absurd q hr
   ·replace e2:=er▸e2;cases e2;exact hr
   ·have:=m2.at;replace this:=e2▸this;cases this;exact hX
  refine .FE r2 h e2 IA (Dz.trans hs) (λq=>by simp at q) λpt hp q x=>?_
  refine aU (wt pt hp q x) λq' x' sm=>?_
  have l:dD nn 2 (cm (1*v.2) (1*v.1)) (bU (1*v.2) (1*v.1)):=gR ip (λq=>by cases q) (by refine(Int.one_mul ..).symm▸?_;exact hv.bb) (by refine(Int.one_mul ..).symm▸?_;exact hv.ba)
  refine aU (dZ (nn:=1) m er (λq=>absurd q hr) fZ l (by decide) h1 (by lia) x') λq2 y s2=>?_
  refine⟨q2,by refine List.length_append.symm▸List.length_singleton.symm▸?_;exact y,?_⟩
  have SX:0<q'.2:=(show aK (wb _) q' from x'.ok).2.2
  have s3:=cA (Int.ne_of_gt (Int.mul_pos SX l.pos)) s2 (iY sm (c7 _ ip))
  have s4:bx q2.1 q2.2 (q.1*(cg vs).1*(1*v.2)*sg v.1) (q.2*(cg vs).2*(1*v.1)*sg v.1):=by
   unfold bx at s3 ⊢
   refine(Int.mul_assoc ..)▸s3.symm▸(Int.mul_assoc ..).symm▸(Int.mul_comm q2.2 ..).symm▸(Int.mul_assoc ..)▸?_
   rfl
  refine(jC ..).symm▸?_
  show bx _ _ (q.1*((cg vs).1*v.2*sg v.1)) (q.2*((cg vs).2*v.1*sg v.1))
  replace s4:=(Int.one_mul ..)▸(Int.one_mul ..)▸s4
  refine(Int.mul_assoc ..)▸(Int.mul_assoc ..)▸(Int.mul_assoc ..)▸(Int.mul_assoc ..)▸?_
  exact s4
section
variable{Γ:Cx}{A:Around}{E:Value->Heap->Prop}{m m':Str->Option Value}{l l':List Cell}{g g' h h':Heap}{r:Nat}{ns gs:List Str}{cs:List (Str×Addr)}{e e':Expr}{s t:Sp}{pos:Pos}{k:dg}{b:BS}
theorem Cf{x:Str}{p:Pos}{iter:Expr}{body:List Stmt}{xs:List Value}{Q:Flow->Heap->Prop}(I:Nat->Heap->(Str->Option Value)->List Cell->Prop)(C:Co Γ r ns gs cs)(F:Fv Γ g m l h)(y:Px Γ m l g iter (.l xs))(hx:Gs ns x)(i0:∀g1,Sub g g1->I 0 g1 m l)
  (turn:∀(i:Nat) (v:Value) m1 m2 l1 g1 h1 c Q',xs[i]? =some v->Sub g g1->Fv Γ g1 m2 (c::l1) h1->I i g1 m1 l1->St m1 x v m2->(∀m3 l3 g2 h2,Sub g1 g2->Fv Γ g2 m3 (c::l3) h2->I (i+1) g2 m3 l3->Q' .next h2)->(∀u h2,Q (.ret u) h2->Q' (.ret u) h2)->Wp Γ.A (execs body Γ.env) Q' (fB Γ.A Γ.env E) h1)
  (done:∀m1 l1 g0 g1 h1,Sub g g0->Sub g0 g1->Fv Γ g1 m1 l1 h1->I xs.length g0 m1 l1->Q .next h1)
  (hs:∀x,foldedSetIterable iter Γ.env x=pure x:=by intro _;rfl):Wp Γ.A (exec (.For (.Name x p) iter body [] pos) Γ.env) Q E h:=by
 refine lG (E₁:=fB Γ.A Γ.env E) Γ.ρ Γ.L C.rm.hd (y.go _ _ g h (Sub.refl _) F λv g2 h2 S2 F2 q=>?_) (λe h q=>q) hs
 refine aU q λa ak hl=>?_
 clear q
 obtain rfl:=ak
 refine⟨xs.length,_,λi g1 m1 l1=>Sub g2 g1/\I i g1 m1 l1,g2,m,l,F2,Src.list hl,⟨Sub.refl _,i0 g2 S2⟩,?_,?_⟩
 ·rintro i v g1 m1 l1 h1 it q hi hv ⟨S1,hI⟩ F1
  refine aY (aA C F1 hx λm2 h' F3 M=>?_)
  exact turn i v m1 m2 l1 g1 h' (it,q) _ hv (S2.trans S1) F3 hI M (λm3 l3 g4 h4 S4 F4 Mr=>⟨g4,m3,l3,F4,S4,S1.trans S4,Mr⟩) λu h4 z=>z
 ·rintro g1 m1 l1 h1 g3 ⟨S1,hI⟩ S3 F3
  exact done m1 l1 g1 g3 h1 (S2.trans S1) S3 F3 hI
theorem qI{p pp:Pos}{Q:Flow->Heap->Prop}(C:Co Γ r ns gs cs)(F:Fv Γ g m l h)(G:Gd g)(hr:4<=r)(hx:Gs gs (U "SortFault"))(a:Px Γ m l g e s)(k:∀(a:Addr) g' h',Sub g g'->Fv Γ g' m ((a,E0)::l) h'->E (.ref a) h')
  (he:eval (.Call (.Name (U "SortFault") p) [e] [] pp) Γ.env=(do callWith pp (<-eval (.Name (U "SortFault") p) Γ.env) [] (backTo pp (starEach [e] Γ.env)) (backToKw pp (keywordEach [] Γ.env))):=by rfl)
  (hs:starEach [e] Γ.env=(false,eval e Γ.env)::starEach [] Γ.env:=by rfl):Wp Γ.A (exec (.Raise (some (.Call (.Name (U "SortFault") p) [e] [] pp)) none pos) Γ.env) Q E h:=
 uz C.rm.hd (bw ((Px.glob C G hx .hd).go _ _ g h (Sub.refl _) F λv g2 h2 S2 F2 q=>by
  obtain rfl:v= .ref 67:=q
  refine uA ?_ hs (by rfl)
  refine(Pa.cons a Pa.nil hs).go _ _ _ g2 h2 S2 F2 λvs g3 h3 S3 F3 ar=>?_
  cases ar with|cons a1 a2=>
  cases a2
  refine⟨(G.up (S2.trans S3)).up F3.keep,uB (C.rm.less (by lia)) F3 (G.up (S2.trans S3)) λex g4 h4 S4 F4=>?_⟩
  exact jt F4 ((G.up ((S2.trans S3).trans S4)).up F4.keep) (k ex g4 h4 ((S2.trans S3).trans S4) F4)) he)
end
section
variable{A:Around}{h g:Heap}{R:Result->Heap->Prop}{k:dg}{b:BS}{ρ:List (Addr×Obj)}{sn:Addr}
structure Sf(k:dg)(sn:Addr)(g:Heap):Prop where
 qw:k.al.lookup (U "sort_names")=some (.ref sn)
 sn:Sn g sn
theorem Sf.lf(x:Sf k sn g)(S:Sub g h):Sf k sn h:=⟨x.qw,let⟨p,q,r,z⟩:=x.sn;⟨p,q,r,z.up S⟩⟩
theorem Sn.lf{g h:Heap}{sn:Addr}(x:Sn g sn)(S:Sub g h):Sn h sn:=by
 refine JR x λp q r z=>?_
 clear x
 exact⟨p,q,r,z.up S⟩
theorem tP{i:Nat}{t:Tok}{v:Value}{r:Row}(x:Gr ρ g h [])(nt:eH ρ)(gw:Ao A ρ)(G:Gd g)(I:In w.params g k.self 638 k.al)(At:dS k)(Z:Sf k sn g)(hl:Ls g k.sorts b.sorts)(bk:Bk k b.B b.ops b.args b.sorts b.ae b.xs g)(hz:b.B.length<=4990)(hA:Rm A 6)
  (e:b.B[i]? =some r)(hs:fu r.2.2.1)(ip:r.2.2.1≠2)
  (K:∀e T h',Step ρ [] h (X e T) h'->R (.error (.ref e)) h'):Cd A (.call (.ref 481) ⟨[.ref k.self,.int (i:Int) t,v],[]⟩) R h:=by
 refine gD [(U "self",.ref k.self),(U "t",.int (i:Int) t),(U "value",v)] [] (ns:=[U "self",U "t",U "value"]) (gs:=[U "REAL",U "SortFault",U "div"]) (r:=5) x nt G hA (cU G) (cV G) rfl rfl rfl rfl (by decide +kernel) λΓ m g1 h1 eX hE bS C P S F=>?_
 have hB:Ab Γ.A Γ.env Γ.L Γ.ρ:=by refine eX.symm▸?_;exact Ab.of gw hE bS C.ev
 obtain⟨to,ts,va,vd,e1,e2,e3,e4,ra,rd⟩:=bk.rows.row e
 have hi:i<b.B.length:=(List.getElem?_eq_some_iff.mp e).1
 refine au ?_
 refine kF ?_ (by refine hE.symm▸?_;k_extra "R") (by refine hE.symm▸?_;k_extra "R")
 refine di C F (G.up S) (f:=280) (Px.local C (v:=.ref k.self) (by k_extra "a") (by k_extra "w")) (λv g2 S2 q=>⟨k.self,q,⟨λA E pl Q h S3 z=>vC At (((G.up S).up S2).up S3) (((I.up S).up S2).up S3) (Kv.mem (by k_extra "a")) z⟩⟩) (by k_extra "R") (by k_extra "R") (Pa.cons (s:=.v (.int (i:Int) t)) (by k_extra "v") (Pa.cons (s:=.i 2) (by k_extra "v") (Pa.cons (s:=.s (U "/")) (by k_extra "v") Pa.nil (by k_extra "R")) (by k_extra "R")) (by k_extra "R")) (λg2 h2 S2 F2 t2 t3=>?_) (by k_extra "R") (by k_extra "R")
 have I0:Fx Γ.ρ g2 Γ.L m [] h2:=F2
 obtain⟨oL,G4,eL,x4,S4⟩:=Fx.BF (l₀:=[]) I0
 have Sg:=S.trans (S2.trans S4)
 refine Wp.call (iB (k:=k) (s:=2) (C.rm.less (by decide)) (hB.ao I0 eL) x4 (G.up Sg) (I.up Sg) At Z.qw (Z.sn.lf Sg) (hl.up Sg) e3 (by k_extra "z") ip (.inr (.inr rfl)) hs (by decide +kernel) λex T h' st=>?_)
 obtain⟨g5,S5,F5⟩:=Fx.jr (l₀:=[]) I0 eL st
 refine gu (l:=[]) hB F5 λT' g6 h6 S6 F6=>?_
 exact K ex T' h6 (x.d5 (Γ:=Γ) eX F6 (S.trans (S2.trans (S5.trans S6))))
end
section
variable{A:Around}{h g:Heap}{R:Result->Heap->Prop}{k:dg}{b:BS}{ρ:List (Addr×Obj)}{sn nt:Addr}{l:List Cell}
theorem y4{i:Nat}{t:Tok}{r:Row}{q:Int×Int}(x:Bf k b l g)(N:In w.params g nt 732 [(U "bank",.ref k.self)])(hA:Rm A 2)(e:b.B[i]? =some r)(hr:r.1=U "num")(hd:r.2.2.2= .inr q):Qc A 661 [.v (.ref nt),.v (.int (i:Int) t)] (.p (.inr q)) g l:=
 Qc.flat rfl λR ρ L m g1 h vs S F a kk=>by
  refine fv (kA a) λζ ζ ak p z=>?_
  obtain rfl:=ak
  cases p;cases z
  obtain⟨to,ts,va,vd,e1,e2,e3,e4,ra,rd⟩:=x.bk.rows.row e
  replace rd:=hd▸rd
  exact fq hA ((x.gd.up S).up F.keep) ((N.up S).up F.keep) ((x.inst.up S).up F.keep) x.d4 ((x.bk.lf S).lf F.keep) (x.cell F List.mem_cons_self) (x.cell F (.tail _ (.tail _ (.tail _ (.head _))))) e (by have:=x.len;k_extra "z") λv h' st hv=>kk v h' st (by
   rcases hv with⟨_,hv⟩|⟨q,_⟩
   ·replace hv:=e4▸hv
    cases hv
    exact rd.up (S.aj.trans (F.keep.aj.trans (λa o t e=>st.keep a o e (λz=>nomatch z) λz=>nomatch z)))
   ·exact absurd hr q)
theorem y5{i:Nat}{t:Tok}{r:Row}(x:Bf k b l g)(N:In w.params g nt 732 [(U "bank",.ref k.self)])(hA:Rm A 2)(e:b.B[i]? =some r)(hr:r.1≠U "num"):Qc A 661 [.v (.ref nt),.v (.int (i:Int) t)] (.v .none) g l:=
 Qc.flat rfl λR ρ L m g1 h vs S F a kk=>by
  refine fv (kA a) λζ ζ ak p z=>?_
  obtain rfl:=ak
  cases p;cases z
  exact fq hA ((x.gd.up S).up F.keep) ((N.up S).up F.keep) ((x.inst.up S).up F.keep) x.d4 ((x.bk.lf S).lf F.keep) (x.cell F List.mem_cons_self) (x.cell F (.tail _ (.tail _ (.tail _ (.head _))))) e (by have:=x.len;k_extra "z") λv h' st hv=>kk v h' st (by
   rcases hv with⟨q,_⟩|⟨_,rfl⟩
   ·exact absurd q hr
   ·rfl)
theorem tQ{i:Nat}{t:Tok}{r:Row}(hA:Rm A 2)(G:Gd h)(N:In w.params h nt 732 [(U "bank",.ref k.self)])(I:In w.params h k.self 638 k.al)(At:dS k)(bk:Bk k b.B b.ops b.args b.sorts b.ae b.xs h)(O5:Ls h k.ops b.ops)(e:b.B[i]? =some r)(hr:r.1≠U "num")(hz:b.B.length<=5000)
  (K:∀h',Step [] [] h [] h'->R (.ok (.ret (.int (i:Int) t))) h'):Cd A (.call (.ref 668) ⟨[.ref nt,.int (i:Int) t],[]⟩) R h:=by
 refine aw (ps:=[U "self",U "t"]) (rest:=[]) (ns:=[U "self",U "t"]) (gs:=[U "INT",U "REAL"]) (vs:=[some (.ref nt),some (.int (i:Int) t)]) (r:=1) (Gr.nil h) G hA (cW G) (cX G) rfl rfl rfl rfl rfl (by decide +kernel) λL g1 h1 env A1 hE bS AM O S F=>?_
 obtain⟨to,ts,va,vd,e1,e2,e3,e4,ra,rd⟩:=bk.rows.row e
 have hi:i<b.B.length:=(List.getElem?_eq_some_iff.mp e).1
 refine au ?_
 k_extra "T"
 refine Wp.call (pT AM (by k_extra "u") (by k_extra "u") At (by k_extra "u") e1 (by k_extra "z") λh2 st=>?_)
 obtain⟨g3,S3,F3⟩:=Fx.aJ (by k_extra "s") st
 try dsimp only
 k_extra "T"
 refine bL (by simpa using hr) ?_
 k_extra "T"
 exact ah (K _ ((Gr.nil h).done (by k_extra "s") (by k_extra "q")))
theorem tR{i:Nat}{t:Tok}{r:Row}(x:Bf k b l g)(N:In w.params g nt 732 [(U "bank",.ref k.self)])(hA:Rm A 2)(e:b.B[i]? =some r)(hr:r.1≠U "num"):Qc A 668 [.v (.ref nt),.v (.int (i:Int) t)] (.v (.int (i:Int) t)) g l:=
 Qc.flat rfl λR ρ L m g1 h vs S F a kk=>by
  refine fv (kA a) λζ ζ ak p z=>?_
  obtain rfl:=ak
  cases p;cases z
  exact tQ hA ((x.gd.up S).up F.keep) ((N.up S).up F.keep) ((x.inst.up S).up F.keep) x.d4 ((x.bk.lf S).lf F.keep) (x.cell F List.mem_cons_self) e hr x.len λh' st=>kk _ h' st rfl
theorem qH.MR{B0 B:List Row}{i0 j n:Nat}{r0 r:Row}{nn dd:Nat}{vs:List (Int×Int)}(f:qH B0 i0 r0 nn dd vs B j)(e:B[j]? =some r)(hr:r.1=U "num"):n=0\/r0.1=U "num"\/r0.2.2.1=2:=by
 cases f with
 |num _ _ h=>exact .inr (.inl h)
 |FE r' h e' AP=>rw[e] at e';cases e';exact absurd hr AP
theorem I1{p q:Int×Int}(G:Gd g)(hA:Rm A 3)(hp:aK 4000 p)(hq:aK 4000 q)(h0:q.1≠0):Qc A 105 [.p (.inr p),.p (.inr q)] (.p (.inr (jA p q))) g l:=
 Qc.flat rfl λR ρ L m g1 h vs S F a kk=>by
  obtain⟨ζ,ζ,rfl,⟨pa,ta,tb,rfl,E4⟩,⟨qa,tc,td,rfl,E5⟩⟩:=kA a
  exact Dc hA ((G.up S).up F.keep) (E4.up F.keep.aj) (E5.up F.keep.aj) h0 (Int.ne_of_gt hp.2.2) hp.1 hp.2.1 hq.1 hq.2.1 λr t u h' st hr=>kk _ h' st ⟨r,t,u,rfl,hr⟩
inductive Qv(k:dg)(b:BS)(i0:Nat)(r0:Row)(nn dd:Nat)(ts:List Nat)(nt sa:Addr)(n:Nat)(g:Heap)(m:Str->Option Value):List Cell->Prop
 |mk (b2:BS) (j:Nat) (tj:Tok) (P:Ps m [(U "self",.ref nt),(U "some",.ref sa),(U "found",.int (j:Int) tj)]) (X:Bf k b2 (b2.l k) g) (f:qH b.B i0 r0 nn dd (ay b.B (ts.take n)) b2.B j) (ex:Ext b.B b2.B) (ln:b2.B.length<=b.B.length+1+3*n) (a1:∀t∈ts.take n,∃q,numAt b.B t=some q/\q.1≠0) (a2:n=0\/r0.1=U "num"\/r0.2.2.1=2):Qv k b i0 r0 nn dd ts nt sa n g m (b2.l k)
def Let(B:List Row)(r0:Row)(ts:List Nat):Prop:=(∀t∈ts,∃q,numAt B t=some q/\q.1≠0)/\(ts=[]\/r0.1=U "num"\/r0.2.2.1=2)
theorem Bf.next{b':BS}{ρ:List (Addr×Obj)}{L:Addr}{m:Str->Option Value}{g' h':Heap}{l':List Cell}(x:Bf k b l g)(S:Sub g g')(nt:eH ρ)(F:Fx ρ g' L m l' h')(hm:∀c∈b'.l k,c∈l')(bk:Bk k b'.B b'.ops b'.args b'.sorts b'.ae b'.xs h')(hl:b'.B.length<=5000):Bf k b' l' g':=
 ⟨x.gd.up S,x.inst.up S,x.d4,bk.up (F.aj nt),hm,hl⟩
theorem tS{sa:Addr}{vs:List Value}{i0:Nat}{ts:List Nat}{r0:Row}{nn dd:Nat}(x:Gr ρ g h (b.l k))(I3:eH ρ)(gw:Ao A ρ)(G:Gd g)(N:In w.params g nt 732 [(U "bank",.ref k.self)])(I:In w.params g k.self 638 k.al)(At:dS k)(Z:Sf k sn g)(bk:Bk k b.B b.ops b.args b.sorts b.ae b.xs h)(hA:Rm A 9)(hz:b.B.length<=4900)
  (hl:Ls g sa vs)(hi:IntsAre vs (bA (i0::ts)))(h3:ts.length<=3)(zW:b.B[i0]? =some r0)(ht:∀i∈i0::ts,∃s,(s=1\/s=2)/\aF b.B nn dd s i)(h1:1<=nn)(hn:nn<=500)
  (K:∀(j:Nat) t (b':BS) h',Step ρ (b.l k) h (b'.l k) h'->Bk k b'.B b'.ops b'.args b'.sorts b'.ae b'.xs h'->Let b.B r0 ts->qH b.B i0 r0 nn dd (ay b.B ts) b'.B j->Ext b.B b'.B->b'.B.length<=b.B.length+10->R (.ok (.ret (.int j t))) h')
  (Kb:¬Let b.B r0 ts->∀e T (b':BS) h',Step ρ (b.l k) h (X e T++b'.l k) h'->Bk k b'.B b'.ops b'.args b'.sorts b'.ae b'.xs h'->Ext b.B b'.B->b'.B.length<=b.B.length+10->R (.error (.ref e)) h'):
  Cd A (.call (.ref 703) ⟨[.ref nt,.ref sa],[]⟩) R h:=by
 refine gD [(U "self",.ref nt),(U "some",.ref sa)] [U "found",U "t",U "value",U "top"] (ns:=[U "self",U "some",U "found",U "t",U "value",U "top"]) (gs:=[U "SortFault",U "ZERO",U "div",U "REAL"]) (r:=8) x I3 G hA (fh G) (fi G) rfl rfl rfl rfl (by decide +kernel) λΓ m g1 wX eX hE bS C P S F=>?_
 have hB:Ab Γ.A Γ.env Γ.L Γ.ρ:=by refine eX.symm▸?_;exact Ab.of gw hE bS C.ev
 have X1:Bf k b (b.l k) g1:=⟨G.up S,I.up S,At,(bk.up (x.aj I3)).lf S,λζ hc=>hc,by k_extra "z"⟩
 refine nE (by cases hi with|cons _ t y=>exact⟨t,_,rfl⟩:∃t0 us,vs= .int (i0:Int) t0::us) λt0 us ak=>?_
 obtain rfl:=ak
 have qC:IntsAre us (bA ts):=by cases hi with|cons _ _ y=>exact y
 have GD:=bG qC
 refine aU (ht i0 List.mem_cons_self) λs0 BQ Kg=>?_
 refine fF Kg.row λSY DD Cg Cj=>?_
 replace DD:=zW▸DD;cases DD
 refine au ?_
 refine aZ ?_ (by k_extra "R")
 refine di C F (G.up S) (f:=668) (Px.local C (v:=.ref nt) (by k_extra "a") (by k_extra "w")) (λv g2 S2 q=>⟨nt,q,Mt.eO ((G.up S).up S2) ((N.up S).up S2) (by k_extra "a") rfl⟩) (by k_extra "R") (by k_extra "R") (Pa.cons (s:=.v (.int (i0:Int) t0)) (by k_extra "v") Pa.nil (by k_extra "R")) (λg2 h2 S2 F2=>?_) (by k_extra "R") (by k_extra "R")
 obtain⟨G3,x3,S3⟩:=Fx.bF F2
 refine Wp.call (vU (nt:=nt) (k:=k) (B:=b.B) x3 ((X1.lf S2).gd.up S3) ((N.up S).up (S2.trans S3)) ((X1.lf S2).inst.up S3) At ((X1.lf S2).bk.lf F2.keep) (C.rm.less (by decide)) (by k_extra "z") zW (Cj.ok (by k_extra "z")) λj0 PM B' av ai af ag aO h3 st uT ar=>?_)
 obtain⟨g4,S4,F4⟩:=Fx.aT F2 st
 refine u9 (qH.start (dd:=dd) zW (Cg▸BQ) Cj ar) λf0 S_ VV=>?_
 have X4:Bf k ⟨B',av,ai,af,ag,aO⟩ ((BS.mk B' av ai af ag aO).l k) g4:=X1.next (S2.trans S4) C.nt F4 (λζ hc=>hc) uT (by show B'.length<=5000;k_extra "z")
 refine aA C F4 (by k_extra "a") λm5 h5 F5 M5=>?_
 refine ab λQ1 gE=>?_
 have P5:Ps m5 [(U "self",.ref nt),(U "some",.ref sa),(U "found",.int (j0:Int) PM)]:=.cons (by k_extra "w") (.cons (by k_extra "w") (.cons (by k_extra "w") (.nil _)))
 have dy:=S.trans (S2.trans S4)
 have N4:In w.params g4 nt 732 [(U "bank",.ref k.self)]:=N.up dy
 have bad:∀(b2:BS) (c:Cell) ex m' g' h',¬Let b.B r0 ts->Sub g g'->Fv Γ g' m' ((ex,E0)::c::b2.l k) h'->Bk k b2.B b2.ops b2.args b2.sorts b2.ae b2.xs g'->Ext b.B b2.B->b2.B.length<=b.B.length+10->fB Γ.A Γ.env (Lv Γ.A Γ.env R) (.ref ex) h':=λb2 c ex m' g' h' nl Sg Fg bg eg lg=>by
  refine vO (l:=c::b2.l k) hB Fg λT' g6 h6 S6 F6=>?_
  obtain⟨g7,S7,ζ,F7⟩:=Fx.weak (l':=X ex T'++b2.l k) F6 (List.Sublist.append (List.Sublist.refl _) (.cons _ (List.Sublist.refl _)))
  refine gu (l:=b2.l k) hB F7 λT2 g8 h8 S8 F8=>?_
  exact Kb nl ex T2 b2 h8 (x.d5 eX F8 (Sg.trans (S6.trans (S7.trans S8)))) (bg.lf (S6.trans (S7.trans (S8.trans F8.keep)))) eg lg
 have MS:∀(b2:BS) (c:Cell) ex T m' g' h',¬Let b.B r0 ts->Sub g g'->Fv Γ g' m' (X ex T++(c::b2.l k)) h'->Bk k b2.B b2.ops b2.args b2.sorts b2.ae b2.xs g'->Ext b.B b2.B->b2.B.length<=b.B.length+10->fB Γ.A Γ.env (Lv Γ.A Γ.env R) (.ref ex) h':=λb2 c ex T m' g' h' nl Sg Fg bg eg lg=>by
  refine vH (l:=c::b2.l k) hB Fg λT' g6 h6 S6 F6=>?_
  obtain⟨g7,S7,ζ,F7⟩:=Fx.weak (l':=X ex T'++b2.l k) F6 (List.Sublist.append (List.Sublist.refl _) (.cons _ (List.Sublist.refl _)))
  refine gu (l:=b2.l k) hB F7 λT2 g8 h8 S8 F8=>?_
  exact Kb nl ex T2 b2 h8 (x.d5 eX F8 (Sg.trans (S6.trans (S7.trans S8)))) (bg.lf (S6.trans (S7.trans (S8.trans F8.keep)))) eg lg
 refine Cf (xs:=us) (Qv k b i0 r0 nn dd ts nt sa) C F5 (Px.from (xs:=.int (i0:Int) t0::us) (i:=1) (Px.qZ (Px.local C (v:=.ref sa) (by k_extra "a") (by k_extra "w")) (hl.up dy)) (Px.lu rfl) (by simp;k_extra "z")) (by k_extra "a") (λg5 S5=>.mk _ j0 PM P5 (X4.lf S5) f0 S_ (by show B'.length<=_;k_extra "z") (λt ht=>nomatch ht) (.inl rfl)) ?_ ?_
 ·rintro n v m1 m2 l1 g6 h6 c Q' hv S6 F6 hI M kn kr
  cases hI with|mk b2 j tj P2 X2 f ex ln a1 a2=>
  refine dm (cw qC n v hv) λt tt et ak=>?_
  obtain rfl:=ak
  have GF:=List.mem_of_getElem? et
  refine aU (ht t (List.mem_cons_of_mem _ GF)) λi7 B6 MT=>?_
  refine fF MT.row λrt MU Ta MV=>?_
  have Tc:=ex.get MU
  have Ia:n<3:=by have:=(List.getElem?_eq_some_iff.mp et).1;lia
  have X6:Bf k b2 (c::b2.l k) g6:=⟨X2.gd,X2.inst,X2.d4,X2.bk,λz hz=>.tail _ hz,X2.len⟩
  have P6:Ps m2 [(U "self",.ref nt),(U "some",.ref sa),(U "found",.int (j:Int) tj)]:=P2.st M (by kernel_rfl)
  have VW:m2 (U "t")=some (.int (t:Int) tt):=M.hd
  refine ab λQa tK=>?_
  by_cases cZ:rt.1=U "num"
  ·refine dm (MV cZ) λa c1 hd lo=>?_
   have qJ:=dF MU cZ hd
   refine aH C F6 (by k_extra "a") (by k_extra "v") (λv7 m7 g7 h7 S7 F7 q7 M7=>?_) (by k_extra "R")
   refine jH (q7:aD g7 v7 (.inr (a,c1))) λpv VX VY ak Mm=>?_
   obtain rfl:=ak
   refine tK.go ?_
   refine ab λQb Fj=>?_
   refine aN F7 (by k_extra "b") rfl λg8 h8 S8 F8=>?_
   refine aB (Fj.go ?_)
   have Gz:aW g8 (.ref pv) (.inr (a,c1)):=aD.pv ⟨pv,_,_,rfl,Mm.up S8.aj⟩
   have PN:aW g8 (.ref 70) (.inr (0,1)):=aD.pv ⟨70,_,_,rfl,(X2.gd.up (S7.trans S8)).zero⟩
   have P8:Ps m7 [(U "self",.ref nt),(U "some",.ref sa),(U "found",.int (j:Int) tj)]:=P6.st M7 (by kernel_rfl)
   have MW:m7 (U "value")=some (.ref pv):=M7.hd
   clear M7 M P2 P6 Mm
   refine ab λQc uS=>?_
   have FH:∀p1 p2 p3,Pb Γ m7 (c::b2.l k) g8 (.Compare (.Name (U "value") p1) [.Eq] [.Name (U "ZERO") p2] p3) (decide (((a,c1):Int×Int)=(0,1))):=λp1 p2 p3=>Pb.cmp (s:=.p (.inr (a,c1))) (t:=.p (.inr (0,1))) (Px.Bv (Px.local C (by k_extra "a") MW) Gz) (Px.Bv (Px.glob C (X2.gd.up (S7.trans S8)) (by k_extra "a") (by k_extra "a")) PN) (Kc.rat (C.rm.less (by decide))) (by k_extra "R")
   by_cases hz:a=0
   ·have II:c1=1:=by
     have h:=lo.Dr
     replace h:=(Int.gcd_zero_left ..)▸hz▸h
     exact a8 h lo.pos
    refine b9 F8 (FH _ _ _) (by simp[hz,II]) λg9 h9 S9 F9=>?_
    refine ab λQd FA=>?_
    refine qI C F9 (X2.gd.up (S7.trans (S8.trans S9))) (by decide) (by k_extra "a") Px.str (λqF j7 oE ft fC=>?_) (by k_extra "R") (by k_extra "R")
    exact bad b2 c qF m7 j7 oE (λq=>by
     refine aU (q.1 t GF) λq e hq=>?_
     replace e:=qJ▸e;cases e;exact hq hz) (dy.trans (S6.trans (S7.trans (S8.trans (S9.trans ft))))) fC (X2.bk.lf (S7.trans (S8.trans (S9.trans ft)))) ex (by k_extra "z")
   ·refine aN F8 (FH _ _ _) (by simp[hz]) λg9 h9 S9 F9=>?_
    refine aB (uS.go ?_)
    refine ab λQd FA=>?_
    have X9:=X6.lf (S7.trans (S8.trans S9))
    have N9:In w.params g9 nt 732 [(U "bank",.ref k.self)]:=N4.up (S6.trans (S7.trans (S8.trans S9)))
    have PO:aW g9 (.ref pv) (.inr (a,c1)):=Gz.up S9.aj
    have I4:ay b.B (ts.take (n+1))=ay b.B (ts.take n)++[(a,c1)]:=by refine(take_snoc et).symm▸(gS ..).symm▸qJ.symm▸?_;rfl
    have hq:∀u∈ts.take (n+1),∃q,numAt b.B u=some q/\q.1≠0:=by
     refine(take_snoc et).symm▸?_
     intro u hu
     rcases List.mem_append.mp hu with hu|hu
     ·exact a1 u hu
     ·refine(List.mem_singleton.mp hu).symm▸?_;exact⟨_,qJ,hz⟩
    have Kf:∀u∈ay b.B (ts.take n),u.1≠0:=λu hu=>by
     refine aU (List.mem_filterMap.mp hu) λt2 h2 e2=>?_
     refine aU (a1 t2 h2) λq e3 Td=>?_
     replace e3:=e2▸e3;cases e3;exact Td
    have nY:(ay b.B (ts.take n)).length<=2:=Nat.le_trans (gA _ _) (Nat.le_trans (List.length_take_le _ _) (by k_extra "z"))
    have AQ:nn+nn*(ay b.B (ts.take n)).length<=4000:=by
     have:nn*(ay b.B (ts.take n)).length<=nn*2:=Nat.mul_le_mul_left _ nY
     lia
    have rv:aK 4000 (a,c1):=⟨lo.ba.mono (by k_extra "z"),lo.bb.mono (by k_extra "z"),lo.pos⟩
    have rD:∃rj,b2.B[j]? =some rj/\((rj.1=U "num"/\∃q1,rj.2.2.2= .inr q1/\aK 4000 q1)\/(rj.1≠U "num"/\rj.2.2.1=r0.2.2.1/\r0.1≠U "num")):=by
     cases f with
     |num q0 r' h hd e e1 e2 e3 l sm=>exact⟨r',e,.inl ⟨e1,_,e3,l.ba.mono AQ,l.bb.mono AQ,l.pos⟩⟩
     |FE r' h e AP hs h1 wt=>exact⟨r',e,.inr ⟨AP,hs,h⟩⟩
    refine aU rD λrj GG Tf=>?_
    clear rD
    clear FH Gz PN F6 F7 F8
    rcases Tf with⟨GH,q1,GI,rq⟩|⟨GH,MX,MY⟩
    ·refine aH C F9 (by k_extra "a") (by k_extra "v") (λv10 oF j7 oE ft fC GB wu=>?_) (by k_extra "R")
     refine jH (GB:aD j7 v10 (.inr q1)) λpj VZ V0 ak Tg=>?_
     obtain rfl:=ak
     have MZ:aW j7 (.ref pj) (.inr q1):=aD.pv ⟨pj,_,_,rfl,Tg⟩
     refine FA.go ?_
     refine ab λQe M0=>?_
     refine aN fC (by k_extra "b") rfl λiU nh iE iA=>?_
     refine ab λQf M'=>?_
     have FI:=ft.trans iE
     have i5:=X9.lf FI
     have FJ:aW iU (.ref pv) (.inr (a,c1)):=PO.up FI.aj
     have M_:aW iU (.ref pj) (.inr q1):=MZ.up iE.aj
     have AS:Ps oF [(U "self",.ref nt),(U "some",.ref sa),(U "found",.int (j:Int) tj)]:=P8.st wu (by kernel_rfl)
     refine aZ ?_ (by k_extra "R")
     refine di C iA i5.gd (f:=446) (Px.zJ (x:=nt) (v:=.ref k.self) i5.gd (Px.local C (by k_extra "a") (by k_extra "w")) (N9.up FI) rfl rfl (by k_extra "R")) (λv g2 S2 q=>⟨k.self,q,Mt.fW (i5.lf S2) (by k_extra "a")⟩) (by k_extra "R") (by k_extra "R")
      (Pa.cons (s:=.p (.inr (jA q1 (a,c1)))) (Px.fn C i5.gd (by k_extra "a") (by k_extra "a") (by k_extra "R") (by k_extra "R") (Pa.cons (Px.Bv (Px.local C (by k_extra "a") (by k_extra "w")) M_) (Pa.cons (Px.Bv (Px.local C (by k_extra "a") (by k_extra "w")) FJ) Pa.nil (by k_extra "R")) (by k_extra "R")) (I1 i5.gd (C.rm.less (by decide)) rq rv hz) (by k_extra "R") (by k_extra "R")) (Pa.cons (s:=.i 2) (by k_extra "v") Pa.nil (by k_extra "R")) (by k_extra "R")) (λjP wF dh dY vd pd t2=>?_) (by k_extra "R") (by k_extra "R")
     have l8:=i5.lf dh
     obtain⟨G3,x3,S3⟩:=Fx.ux (l₀:=[c]) dY
     refine Wp.call (jM (B:=b2.B) (n:=(jA q1 (a,c1)).1) (d:=(jA q1 (a,c1)).2) (s:=2) x3 (l8.gd.up S3) (l8.inst.up S3) At (l8.bk.lf dY.keep) (C.rm.less (by decide)) l8.len (aW.up dY.keep.aj (show aW jP vd (.inr (jA q1 (a,c1))) from pd)) (.inr rfl) (λq=>absurd q (by decide)) λj' t' B' av ai af ag aO o4 st uT mk=>?_)
     obtain⟨jz,bP,eD⟩:=Fx.ll (l₀:=[c]) dY st
     generalize zI:(BS.mk B' av ai af ag aO)=b3
     have eD:Fv Γ jz oF (c::b3.l k) o4:=by refine zI▸?_;exact eD
     have rf:Bk k b3.B b3.ops b3.args b3.sorts b3.ae b3.xs o4:=by refine zI▸?_;exact uT
     have FK:Mk b2.B (U "num",[],2,.inr (jA q1 (a,c1))) j' b3.B:=by refine zI▸?_;exact mk
     clear zI mk uT st
     have l3:=FK.len
     refine aA C eD (by k_extra "a") λKh zY mB Ki=>?_
     refine M'.go (aB (M0.go (aB ?_)))
     have z_:=l8.next (b':=b3) bP C.nt eD (λζ hc=>.tail _ hc) rf (by k_extra "z")
     refine kn Kh _ jz zY (by k_extra "q") mB (.mk b3 j' t' (.cons (by k_extra "w") (.cons (by k_extra "w") (.cons (by k_extra "w") (.nil _)))) ⟨z_.gd,z_.inst,z_.d4,z_.bk,λζ hc=>hc,z_.len⟩ ?_ (ex.trans FK.ext) (by k_extra "z") hq (f.MR GG GH))
     refine I4.symm▸?_
     exact f.MP GG GH GI lo hz Kf FK
    ·refine aH C F9 (by k_extra "a") (by k_extra "v") (λv10 oF j7 oE ft fC GB wu=>?_) (by k_extra "R")
     obtain rfl:v10= .none:=GB
     refine FA.go ?_
     refine ab λQe M0=>?_
     refine b9 fC (by k_extra "b") rfl λiU nh iE iA=>?_
     refine ab λQf M'=>?_
     have FI:=ft.trans iE
     have i5:=X9.lf FI
     have FJ:aW iU (.ref pv) (.inr (a,c1)):=PO.up FI.aj
     have AS:Ps oF [(U "self",.ref nt),(U "some",.ref sa),(U "found",.int (j:Int) tj)]:=P8.st wu (by kernel_rfl)
     have Na:=N9.up FI
     refine jH (FJ:aD iU (.ref pv) (.inr (a,c1))) λPQ Th Ti e2 Nb=>?_
     cases e2
     refine aZ ?_ (by k_extra "R")
     refine di C iA i5.gd (f:=481) (Px.zJ (x:=nt) (v:=.ref k.self) i5.gd (Px.local C (by k_extra "a") (by k_extra "w")) Na rfl rfl (by k_extra "R")) (λv g2 S2 q=>⟨k.self,q,Mt.fW (i5.lf S2) (by k_extra "a")⟩) (by k_extra "R") (by k_extra "R")
      (Pa.cons (s:=.v (.int (j:Int) tj)) (Px.jm C i5.gd (Px.local C (v:=.ref nt) (by k_extra "a") (by k_extra "w")) (Mt.eO i5.gd Na (by k_extra "a") rfl) (by k_extra "R") (by k_extra "R") (by k_extra "A") (tR i5 Na (C.rm.less (by decide)) GG GH) (by k_extra "R") (by k_extra "R")) (Pa.cons (s:=.v (.ref pv)) (Px.local C (by k_extra "a") (by k_extra "w")) Pa.nil (by k_extra "R")) (by k_extra "R")) (λjP wF dh dY=>?_) (by k_extra "R") (by k_extra "R")
     have l8:=i5.lf dh
     by_cases fZ:r0.2.2.1=2
     ·have I5:rj.2.2.1=2:=MX.trans fZ
      obtain⟨G3,x3,S3⟩:=Fx.ux (l₀:=[c]) dY
      refine Wp.call (tA (B:=b2.B) x3 (l8.gd.up S3) (l8.inst.up S3) At (l8.bk.lf dY.keep) (C.rm.less (by decide)) (by k_extra "z") GG I5 (λq=>absurd q GH) (Nb.up (dh.aj.trans dY.keep.aj)) hz (lo.ba.mono (by k_extra "z")) (lo.bb.mono (by k_extra "z")) λj' t' B' av ai af ag aO o4 st uT mk=>?_)
      obtain⟨jz,bP,eD⟩:=Fx.ll (l₀:=[c]) dY st
      generalize zI:(BS.mk B' av ai af ag aO)=b3
      have eD:Fv Γ jz oF (c::b3.l k) o4:=by refine zI▸?_;exact eD
      have rf:Bk k b3.B b3.ops b3.args b3.sorts b3.ae b3.xs o4:=by refine zI▸?_;exact uT
      have FK:cH b2.B (cm (1*c1) (1*a)) (bU (1*c1) (1*a)) j rj j' b3.B:=by refine zI▸?_;exact mk
      clear zI mk uT st
      have l3:=FK.len
      refine aA C eD (by k_extra "a") λKh zY mB Ki=>?_
      refine M'.go (aB (M0.go (aB ?_)))
      have z_:=l8.next (b':=b3) bP C.nt eD (λζ hc=>.tail _ hc) rf (by k_extra "z")
      refine kn Kh _ jz zY (by k_extra "q") mB (.mk b3 j' t' (.cons (by k_extra "w") (.cons (by k_extra "w") (.cons (by k_extra "w") (.nil _)))) ⟨z_.gd,z_.inst,z_.d4,z_.bk,λζ hc=>hc,z_.len⟩ ?_ (ex.trans FK.ext) (by k_extra "z") hq (.inr (.inr fZ)))
      refine I4.symm▸?_
      exact f.MQ GG GH lo hz h1 (by k_extra "z") I5 FK
     ·have Aa:Fx Γ.ρ jP Γ.L oF ((c::b2.l k)++[]) wF:=by refine(List.append_nil ..).symm▸?_;exact dY
      obtain⟨oL,G4,eL,x4,S4⟩:=Fx.BF (l₀:=c::b2.l k) (l:=[]) Aa
      have B4:eH ((Γ.L,oL)::Γ.ρ):=λp hp=>by
       rcases List.mem_cons.mp hp with rfl|hp
       ·exact aS Aa.ns eL
       ·exact C.nt p hp
      refine Wp.call (tP (b:=b2) x4 B4 (hB.ao Aa eL) (l8.gd.up S4) (l8.inst.up S4) At ((Z.lf dy).lf (by k_extra "q")) (Gr.cell (l₀:=c::b2.l k) Aa x4 (.tail _ (.tail _ (.tail _ (.head _))))) (l8.bk.lf S4) (by k_extra "z") (C.rm.less (by decide)) GG (by refine MX.symm▸?_;rcases Cg▸BQ with q|q <;> rw[q] <;> simp[fu]) (λq=>fZ (MX.symm.trans q)) λqF T h' st=>?_)
      obtain⟨jz,bP,eD⟩:=Fx.jr (l₀:=c::b2.l k) Aa eL st
      replace eD:=eD.perm List.perm_append_comm
      exact MS b2 c qF T oF jz h' (λq=>by
       rcases q.2 with e|e|e
       ·replace GF:=e▸GF;cases GF
       ·exact MY e
       ·exact fZ e) (by k_extra "q") eD (l8.bk.lf bP) ex (by k_extra "z")
  ·refine aH C F6 (by k_extra "a") (by k_extra "v") (λv7 m7 g7 h7 S7 F7 q7 M7=>?_) (by k_extra "R")
   obtain rfl:v7= .none:=q7
   refine tK.go ?_
   refine ab λQb Fj=>?_
   refine b9 F7 (by k_extra "b") rfl λg8 h8 S8 F8=>?_
   refine ab λQc uS=>?_
   refine qI C F8 (X2.gd.up (S7.trans S8)) (by decide) (by k_extra "a") Px.str (λqF g9 h9 S9 F9=>?_) (by k_extra "R") (by k_extra "R")
   exact bad b2 c qF m7 g9 h9 (λq=>by
    refine aU (q.1 t GF) λq e ζ=>?_
    replace e:=(eU MU cZ)▸e;cases e) (dy.trans (S6.trans (S7.trans (S8.trans S9)))) F9 (X2.bk.lf (S7.trans (S8.trans S9))) ex (by k_extra "z")
 ·rintro m1 l1 g6 g7 h7 S6 S7 F7 hI
  cases hI with|mk b2 j tj P2 X2 f ex ln a1 a2=>
  rw[show ts.take us.length=ts by refine GD.symm▸?_;exact List.take_length] at f a1
  refine gE.go ?_
  refine ab λQ2 iZ=>?_
  refine bR F7 (by k_extra "v") λv g8 h8 S8 F8 q=>?_
  obtain rfl:v= .int (j:Int) tj:=q
  refine iZ.ret (ah ?_)
  exact K j tj b2 h8 (x.d5 eX F8 (dy.trans (S6.trans (S7.trans S8)))) (X2.bk.lf (S7.trans (S8.trans F8.keep))) ⟨a1,by
   rcases a2 with e|a2
   ·exact .inl (List.eq_nil_of_length_eq_zero (by rw[<-GD,e]))
   ·exact .inr a2⟩ f ex (by k_extra "z")
end
section
variable{A:Around}{h g:Heap}{R:Result->Heap->Prop}{k:dg}{b:BS}{ρ:List (Addr×Obj)}{sn nt:Addr}
section
variable{E:Value->Heap->Prop}{A1:Around}{env:Env}{L:Addr}{m:Str->Option Value}{l:List Cell}{oL:Obj}
inductive PR(A1:Around)(ρ:List (Addr×Obj))(g:Heap)(L:Addr)(l:List Cell)(h:Heap):Prop
 |mk (oL:Obj) (G:Heap) (e:h.get? L=some oL) (x:Gr ((L,oL)::ρ) G h []) (s:Sub g G) (ao:Ao A1 ((L,oL)::ρ)) (c:∀a p,(a,p)∈l->Gt G a p):PR A1 ρ g L l h
inductive Tj(A:Around)(ρ:List (Addr×Obj))(g:Heap)(L:Addr)(l:List Cell)(h:Heap):Prop
 |mk (o:Obj) (G:Heap) (e:h.get? L=some o) (x:Gr ((L,o)::ρ) G h l) (s:Sub g G) (a:Ao A ((L,o)::ρ))
theorem Fx.tT(F:Fx ρ g L m l h)(B:Ab A1 env L ρ):Tj A1 ρ g L l h:=by
 obtain⟨oL,G,e,x,s⟩:=Fx.BF (l₀:=[]) F
 exact⟨oL,G,e,x,s,B.ao F e⟩
theorem Fx.I6{l':List Cell}{h':Heap}(F:Fx ρ g L m l h)(e:h.get? L=some oL)(s:Step ((L,oL)::ρ) l h l' h'):Nx ρ g L m l' h':=Fx.jr (l₀:=[]) F e s
theorem Fx.PS(F:Fx ρ g L m l h)(B:Ab A1 env L ρ):PR A1 ρ g L l h:=by
 have F':Fx ρ g L m (l++[]) h:=by refine(List.append_nil ..).symm▸?_;exact F
 obtain⟨oL,G,e,x,s⟩:=Fx.BF F'
 exact⟨oL,G,e,x,s,B.ao F' e,λa p hm=>Gr.cell F' x hm⟩
theorem Fx.I7{e:Addr}{T:List Cell}{h':Heap}(F:Fx ρ g L m l h)(eL:h.get? L=some oL)(st:Step ((L,oL)::ρ) [] h T h'):Nx ρ g L m (T++l) h':=by
 obtain⟨g',s,F'⟩:=Fx.jr (l₀:=l) (l:=[]) (by rw[List.append_nil];exact F) eL st
 exact⟨g',s,F'.perm List.perm_append_comm⟩
end
structure Ng(k:dg)(b:BS)(ρ:List (Addr×Obj))(g h:Heap)(R:Result->Heap->Prop)(op:Str)(i j:Nat)(s s':Int):Prop where
 ok:s'=s->∀(o:Nat) t (b':BS) g2 h',Step ρ (b.l k) h (b'.l k) h'->Gr ρ g2 h' (b'.l k)->Sub g g2->Bk k b'.B b'.ops b'.args b'.sorts b'.ae b'.xs g2->Mk b.B (op,[(i:Int),(j:Int)],0,.inl 0) o b'.B->R (.ok (.ret (.int o t))) h'
 bad:s'≠s->∀e T h',Step ρ (b.l k) h (X e T++b.l k) h'->R (.error (.ref e)) h'
theorem DF{i j:Nat}{ti tj:Tok}{r r':Row}(x:Gr ρ g h (b.l k))(gw:Ao A ρ)(G:Gd g)(I:In w.params g k.self 638 k.al)(At:dS k)(Z:Sf k sn g)(hb:Bk k b.B b.ops b.args b.sorts b.ae b.xs g)(hA:Rm A 6)(hz:b.B.length<=4990)
  (e:b.B[i]? =some r)(e':b.B[j]? =some r')(hs:r.2.2.1=1\/r.2.2.1=2)(mP:r'.2.2.1=1\/r'.2.2.1=2)(K:Ng k b ρ g h R (U "<=") i j r.2.2.1 r'.2.2.1):
  Cd A (.call (.ref 502) ⟨[.ref k.self,.int (i:Int) ti,.int (j:Int) tj],[]⟩) R h:=by
 refine dq (ps:=[U "self",U "a",U "b"]) (rest:=[]) (ns:=[U "self",U "a",U "b"]) (gs:=[U "BOOL"]) (vs:=[some (.ref k.self),some (.int (i:Int) ti),some (.int (j:Int) tj)]) (r:=5) x G hA (fy G) (fz G) rfl rfl rfl rfl rfl (by decide +kernel) λL g1 h1 env A1 hE bS hr O S F=>?_
 have hB:Ab A1 env L ρ:=Ab.of gw hE bS O
 have F:Fx ρ g1 L (mv [U "self",U "a",U "b"] [some (.ref k.self),some (.int (i:Int) ti),some (.int (j:Int) tj)]) (Bl k b.ops b.args b.sorts b.ae b.xs) h1:=F
 obtain⟨a1,a2,a3,a4,a5,a6,a7⟩:=id At
 refine aP (hb.aR e) λts e3=>?_
 refine aP (hb.aR e') λIg lL=>?_
 have hi:i<b.B.length:=(List.getElem?_eq_some_iff.mp e).1
 have hj:j<b.B.length:=(List.getElem?_eq_some_iff.mp e').1
 have f3:=bN e3
 refine au ?_
 k_extra "T"
 refine Wp.call (cn (hr.less (by decide)) (by k_extra "u") (by k_extra "u") At (by k_extra "u") e3 hs (by k_extra "z") λh2 st=>?_)
 obtain⟨g3,S3,F3⟩:=Fx.aJ (by k_extra "s") st
 try dsimp only
 k_extra "T"
 by_cases ku:r'.2.2.1=r.2.2.1
 ·replace lL:=ku▸lL
  refine Wp.call (iw (hr.less (by decide)) (by k_extra "u") (by k_extra "u") At (by k_extra "u") lL (by k_extra "z") λh2 st=>?_)
  obtain⟨g4,S4,F4⟩:=Fx.aJ (by k_extra "s") st
  try dsimp only
  k_extra "T"
  obtain⟨oL,G3,eL,x3,S3,ζ⟩:=Fx.tT (by k_extra "s") hB
  refine Wp.call (nW (k:=k) (B:=b.B) (d:=.inl 0) (is:=[(i:Int),(j:Int)]) x3 (by k_extra "u") (by k_extra "u") At (by k_extra "u") (hr.less (by decide)) (by k_extra "z") (by decide +kernel) ⟨_,_,rfl,by k_extra "u",.cons _ _ (.cons _ _ .nil)⟩ ⟨_,rfl⟩ λj t B' av ai af ag aO h' g2 st y Sy b' mk=>?_)
  obtain⟨g6,S6,I8,F6⟩:=Fx.wB (by k_extra "s") eL st y
  k_extra "T"
  obtain⟨g9,S9,y9⟩:=Gr.out x F6 (by k_extra "q")
  exact ah (K.ok ku j t ⟨B',av,ai,af,ag,aO⟩ g9 h' (x.done F6 (by k_extra "q")) y9 (by k_extra "q") (b'.lf (I8.trans S9)) mk)
 ·obtain⟨oL,G3,eL,x3,S3,ao,hc⟩:=Fx.PS (by k_extra "s") hB
  refine Wp.call (iB (k:=k) (hr.less (by decide)) ao x3 (by k_extra "u") (by k_extra "u") At Z.qw (Z.sn.lf (by k_extra "q")) (hc _ _ (.tail _ (.tail _ (.head _)))) lL (by k_extra "z") ku (.inr hs) (.inr mP) (by decide +kernel) λex T h' st=>?_)
  obtain⟨g5,S5,F5⟩:=Fx.I7 (e:=ex) (by k_extra "s") eL st
  refine gu hB F5 λT' g6 h6 S6 F6=>?_
  exact K.bad ku ex T' h6 (x.done F6 (by k_extra "q"))
theorem DG{i j:Nat}{ti tj:Tok}{r r':Row}(x:Gr ρ g h (b.l k))(gw:Ao A ρ)(G:Gd g)(I:In w.params g k.self 638 k.al)(At:dS k)(Z:Sf k sn g)(hb:Bk k b.B b.ops b.args b.sorts b.ae b.xs g)(hA:Rm A 6)(hz:b.B.length<=4990)
  (e:b.B[i]? =some r)(e':b.B[j]? =some r')(hs:r.2.2.1=1\/r.2.2.1=2)(mP:r'.2.2.1=1\/r'.2.2.1=2)(K:Ng k b ρ g h R (U "<") i j r.2.2.1 r'.2.2.1):
  Cd A (.call (.ref 509) ⟨[.ref k.self,.int (i:Int) ti,.int (j:Int) tj],[]⟩) R h:=by
 refine dq (ps:=[U "self",U "a",U "b"]) (rest:=[]) (ns:=[U "self",U "a",U "b"]) (gs:=[U "BOOL"]) (vs:=[some (.ref k.self),some (.int (i:Int) ti),some (.int (j:Int) tj)]) (r:=5) x G hA (j1 G) (j2 G) rfl rfl rfl rfl rfl (by decide +kernel) λL g1 h1 env A1 hE bS hr O S F=>?_
 have hB:Ab A1 env L ρ:=Ab.of gw hE bS O
 have F:Fx ρ g1 L (mv [U "self",U "a",U "b"] [some (.ref k.self),some (.int (i:Int) ti),some (.int (j:Int) tj)]) (Bl k b.ops b.args b.sorts b.ae b.xs) h1:=F
 obtain⟨a1,a2,a3,a4,a5,a6,a7⟩:=id At
 refine aP (hb.aR e) λts e3=>?_
 refine aP (hb.aR e') λIg lL=>?_
 have hi:i<b.B.length:=(List.getElem?_eq_some_iff.mp e).1
 have hj:j<b.B.length:=(List.getElem?_eq_some_iff.mp e').1
 have f3:=bN e3
 refine au ?_
 k_extra "T"
 refine Wp.call (cn (hr.less (by decide)) (by k_extra "u") (by k_extra "u") At (by k_extra "u") e3 hs (by k_extra "z") λh2 st=>?_)
 obtain⟨g3,S3,F3⟩:=Fx.aJ (by k_extra "s") st
 try dsimp only
 k_extra "T"
 by_cases ku:r'.2.2.1=r.2.2.1
 ·replace lL:=ku▸lL
  refine Wp.call (iw (hr.less (by decide)) (by k_extra "u") (by k_extra "u") At (by k_extra "u") lL (by k_extra "z") λh2 st=>?_)
  obtain⟨g4,S4,F4⟩:=Fx.aJ (by k_extra "s") st
  try dsimp only
  k_extra "T"
  obtain⟨oL,G3,eL,x3,S3,ζ⟩:=Fx.tT (by k_extra "s") hB
  refine Wp.call (nW (k:=k) (B:=b.B) (d:=.inl 0) (is:=[(i:Int),(j:Int)]) x3 (by k_extra "u") (by k_extra "u") At (by k_extra "u") (hr.less (by decide)) (by k_extra "z") (by decide +kernel) ⟨_,_,rfl,by k_extra "u",.cons _ _ (.cons _ _ .nil)⟩ ⟨_,rfl⟩ λj t B' av ai af ag aO h' g2 st y Sy b' mk=>?_)
  obtain⟨g6,S6,I8,F6⟩:=Fx.wB (by k_extra "s") eL st y
  k_extra "T"
  obtain⟨g9,S9,y9⟩:=Gr.out x F6 (by k_extra "q")
  exact ah (K.ok ku j t ⟨B',av,ai,af,ag,aO⟩ g9 h' (x.done F6 (by k_extra "q")) y9 (by k_extra "q") (b'.lf (I8.trans S9)) mk)
 ·obtain⟨oL,G3,eL,x3,S3,ao,hc⟩:=Fx.PS (by k_extra "s") hB
  refine Wp.call (iB (k:=k) (hr.less (by decide)) ao x3 (by k_extra "u") (by k_extra "u") At Z.qw (Z.sn.lf (by k_extra "q")) (hc _ _ (.tail _ (.tail _ (.head _)))) lL (by k_extra "z") ku (.inr hs) (.inr mP) (by decide +kernel) λex T h' st=>?_)
  obtain⟨g5,S5,F5⟩:=Fx.I7 (e:=ex) (by k_extra "s") eL st
  refine gu hB F5 λT' g6 h6 S6 F6=>?_
  exact K.bad ku ex T' h6 (x.done F6 (by k_extra "q"))
inductive Sign:Str->Str->Bool->Prop
 |le:Sign (U "<=") (U "<=") false
 |lt:Sign (U "<") (U "<") false
 |ge:Sign (U ">=") (U "<=") true
 |gt:Sign (U ">") (U "<") true
theorem PT:True:=by
 k_with "z1"=>first
  |(obtain⟨g6,S6,I8,F6⟩:=Fx.wB (by k_extra "s") eL st y;(k_extra "T");obtain⟨g9,S9,y9⟩:=Gr.out x F6 (by k_extra "q");exact ah (K.ok ku o t b' g9 h' (x.done F6 (by k_extra "q")) y9 (by k_extra "q") (bk.lf (I8.trans S9)) mk))
  |(obtain⟨g6,S6,F6⟩:=Fx.I6 (by k_extra "s") eL st;exact gu hB F6 λT' g7 h7 S7 F7=>K.bad ip ex T' h7 (x.done F7 (by k_extra "q")))
 trivial
theorem jS{nm op:Str}{sw:Bool}{i j:Nat}{ti tj tn:Tok}{r r':Row}(sg:Sign nm op sw)(x:Gr ρ g h (b.l k))(gw:Ao A ρ)(G:Gd g)(N:In w.params g nt 732 [(U "bank",.ref k.self)])(I:In w.params g k.self 638 k.al)(At:dS k)(Z:Sf k sn g)(hb:Bk k b.B b.ops b.args b.sorts b.ae b.xs g)(hA:Rm A 7)(hz:b.B.length<=4990)
  (e:b.B[i]? =some r)(e':b.B[j]? =some r')(hs:r.2.2.1=1\/r.2.2.1=2)(mP:r'.2.2.1=1\/r'.2.2.1=2)(K:Ng k b ρ g h R op (if sw then j else i) (if sw then i else j) (if sw then r'.2.2.1 else r.2.2.1) (if sw then r.2.2.1 else r'.2.2.1)):
  Cd A (.call (.ref 710) ⟨[.ref nt,.str nm tn,.int (i:Int) ti,.int (j:Int) tj],[]⟩) R h:=by
 refine dq (ps:=[U "self",U "name",U "a",U "b"]) (rest:=[]) (ns:=[U "self",U "name",U "a",U "b"]) (gs:=[]) (vs:=[some (.ref nt),some (.str nm tn),some (.int (i:Int) ti),some (.int (j:Int) tj)]) (r:=6) x G hA (fj G) (fk G) rfl rfl rfl rfl rfl (by decide +kernel) λL g1 h1 env A1 hE bS hr O S F=>?_
 have hB:Ab A1 env L ρ:=Ab.of gw hE bS O
 obtain⟨a1,a2,a3,a4,a5,a6,a7⟩:=id At
 have Z1:=Z.lf S
 refine au ?_
 cases sg with
 |le=>
  k_extra "T"
  refine eN (by decide +kernel) ?_
  k_extra "T"
  obtain⟨oL,G3,eL,x3,S3,ao⟩:=Fx.tT (by k_extra "s") hB
  refine Wp.call (DF (b:=b) x3 ao (by k_extra "u") (by k_extra "u") At (Z1.lf (by k_extra "q")) (by k_extra "u") (hr.less (by decide)) hz e e' hs mP ⟨λku o t b' g2 h' st y Sy bk mk=>?_,λip ex T h' st=>?_⟩)
  all_goals k_extra "z1"
 |lt=>
  k_extra "T"
  refine bL (by decide +kernel) ?_
  k_extra "T"
  refine eN (by decide +kernel) ?_
  k_extra "T"
  obtain⟨oL,G3,eL,x3,S3,ao⟩:=Fx.tT (by k_extra "s") hB
  refine Wp.call (DG (b:=b) x3 ao (by k_extra "u") (by k_extra "u") At (Z1.lf (by k_extra "q")) (by k_extra "u") (hr.less (by decide)) hz e e' hs mP ⟨λku o t b' g2 h' st y Sy bk mk=>?_,λip ex T h' st=>?_⟩)
  all_goals k_extra "z1"
 |ge=>
  k_extra "T"
  refine bL (by decide +kernel) ?_
  k_extra "T"
  refine bL (by decide +kernel) ?_
  k_extra "T"
  refine eN (by decide +kernel) ?_
  k_extra "T"
  obtain⟨oL,G3,eL,x3,S3,ao⟩:=Fx.tT (by k_extra "s") hB
  refine Wp.call (DF (b:=b) x3 ao (by k_extra "u") (by k_extra "u") At (Z1.lf (by k_extra "q")) (by k_extra "u") (hr.less (by decide)) hz e' e mP hs ⟨λku o t b' g2 h' st y Sy bk mk=>?_,λip ex T h' st=>?_⟩)
  all_goals k_extra "z1"
 |gt=>
  k_extra "T"
  refine bL (by decide +kernel) ?_
  k_extra "T"
  refine bL (by decide +kernel) ?_
  k_extra "T"
  refine bL (by decide +kernel) ?_
  k_extra "T"
  obtain⟨oL,G3,eL,x3,S3,ao⟩:=Fx.tT (by k_extra "s") hB
  refine Wp.call (DG (b:=b) x3 ao (by k_extra "u") (by k_extra "u") At (Z1.lf (by k_extra "q")) (by k_extra "u") (hr.less (by decide)) hz e' e mP hs ⟨λku o t b' g2 h' st y Sy bk mk=>?_,λip ex T h' st=>?_⟩)
  all_goals k_extra "z1"
end
noncomputable abbrev bT(a b:Value):Obj:={cls:=.type "tuple",data:=.seq #[a,b]}
def Zo(TI TO:Addr):Obj->Prop:=λo=>o={cls:=.type "zip",dict:=none,data:=.fields #[.none,.bool false,.bool false,.ref TI,.ref TO],slots:=#[]}
theorem Zo.nt{TI TO:Addr}:∀o,Zo TI TO o->isTup o=false:=λo h=>by refine(show o=_ from h).symm▸?_;rfl
def Ac(m:Str->Option Value):Obj->Prop:=λo=>∃es ep,o.data= .dict es ep/\StrKeys es/\∀name,nsFind es name=m name
theorem Ac.nt{m:Str->Option Value}:∀o,Ac m o->isTup o=false:=λo h=>by
 refine dm h λes ep h ζ=>?_
 unfold isTup
 refine h.symm▸?_
 split <;> simp_all
structure Zp(g:Heap)(TI i1 i2 l1 l2:Addr)(xs ys:List Value):Prop where
 ti:g.get? TI=some (bT (.ref i1) (.ref i2))
 a:Ls g l1 xs
 b:Ls g l2 ys
noncomputable abbrev Zl(z TI TO i1 i2 l1 l2:Addr)(i:Nat)(l:List Cell):List Cell:=(z,Zo TI TO)::(i1,Lit l1 i)::(i2,Lit l2 i)::l
section
variable{A:Around}{E:Value->Heap->Prop}{h h' g:Heap}{env:Env}{L C:Addr}{m:Str->Option Value}{ρ ρ':List (Addr×Obj)}{l:List Cell}{z TI TO i1 i2 l1 l2:Addr}{xs ys:List Value}{i j:Nat}
theorem Zp.up(x:Zp g TI i1 i2 l1 l2 xs ys)(s:Sub g h):Zp h TI i1 i2 l1 l2 xs ys:=⟨s _ _ x.ti,x.a.up s,x.b.up s⟩
theorem qK{a b:Value}(e:h.get? TO=some (bT a b))(x:Frs ρ h):Frs ((TO,bT a b)::ρ) h:=λp hp=>by
 rcases List.mem_cons.mp hp with rfl|hp
 ·exact⟨trivial,#[],by refine(if_pos (eG [a,b] 0)).symm▸?_;exact e⟩
 ·exact x p hp
theorem Fx.apart(F:Fx ρ g C m (Zl z TI TO i1 i2 l1 l2 i l) h)(hT:TO∈adr ρ)(Z:Zp g TI i1 i2 l1 l2 xs ys):ZipApart z TI TO i1 i2 l1 l2:=by
 have nd:=F.own.nd
 have mz:z∈adr (Zl z TI TO i1 i2 l1 l2 i l):=List.mem_cons_self
 have m1:i1∈adr (Zl z TI TO i1 i2 l1 l2 i l):=List.mem_cons_of_mem _ List.mem_cons_self
 have m2:i2∈adr (Zl z TI TO i1 i2 l1 l2 i l):=List.mem_cons_of_mem _ (List.mem_cons_of_mem _ List.mem_cons_self)
 have n1:=List.nodup_cons.mp nd
 have n2:=List.nodup_cons.mp n1.2
 obtain⟨o1,e1,ζ⟩:=Z.a
 obtain⟨o2,e2,ζ⟩:=Z.b
 have ne:∀{a b:Addr} {o:Obj},g.get? a=some o->g.get? b=none->a≠b:=λe n q=>by subst q;replace n:=e▸n;cases n
 have nT:∀{a:Addr},a∈adr (Zl z TI TO i1 i2 l1 l2 i l)->TO≠a:=λha q=>F.cS _ ha (q▸hT)
 have gz:=F.bo _ mz
 have g1:=F.bo _ m1
 have g2:=F.bo _ m2
 have gT:=F.bH _ hT
 exact⟨ne Z.ti gz,nT mz,λq=>n1.1 (q▸List.mem_cons_self),λq=>n1.1 (q▸List.mem_cons_of_mem _ List.mem_cons_self),ne Z.ti gT,ne Z.ti g1,ne Z.ti g2,nT m1,nT m2,λq=>n2.1 (q▸List.mem_cons_self),
  ne e1 gz,ne e1 gT,ne e1 g1,ne e1 g2,ne e2 gz,ne e2 gT,ne e2 g1,ne e2 g2⟩
theorem Fx.I9(F:Fx ρ g C m (Zl z TI TO i1 i2 l1 l2 i l) h)(hT:TO∈adr ρ)(ea:adr ρ'=adr ρ)(hr:Frs ρ' h')(kp:∀c o,c≠z->c≠TO->c≠i1->c≠i2->h.get? c=some o->h'.get? c=some o)
  (hz:Gt h' z (Zo TI TO))(h1:Gt h' i1 (Lit l1 j))(h2:Gt h' i2 (Lit l2 j)):Nx ρ' g C m (Zl z TI TO i1 i2 l1 l2 j l) h':=by
 have mz:z∈adr (Zl z TI TO i1 i2 l1 l2 i l):=List.mem_cons_self
 have m1:i1∈adr (Zl z TI TO i1 i2 l1 l2 i l):=List.mem_cons_of_mem _ List.mem_cons_self
 have m2:i2∈adr (Zl z TI TO i1 i2 l1 l2 i l):=List.mem_cons_of_mem _ (List.mem_cons_of_mem _ List.mem_cons_self)
 have nd:=F.own.nd
 have n1:=List.nodup_cons.mp nd
 have n2:=List.nodup_cons.mp n1.2
 have n3:=List.nodup_cons.mp n2.2
 have ng:∀{b c:Addr} {o:Obj},g.get? b=some o->g.get? c=none->b≠c:=λe n q=>by subst q;replace n:=e▸n;cases n
 refine Fx.grow g (f6 F.ns λo e=>kp _ _ (λq=>F.cz.1 (q▸mz)) (λq=>F.cz.2 (q▸hT)) (λq=>F.cz.1 (q▸m1)) (λq=>F.cz.1 (q▸m2)) e) ⟨λp hp=>?_,nd,λp hp=>?_⟩ hr
  (λb o e=>kp b o (ng e (F.bo _ mz)) (ng e (F.bH _ hT)) (ng e (F.bo _ m1)) (ng e (F.bo _ m2)) (F.keep b o e)) F.dz F.bo (ea▸F.bH) (ea▸F.cz) (ea▸F.cS)
 ·rcases List.mem_cons.mp hp with rfl|hp
  ·exact hz
  rcases List.mem_cons.mp hp with rfl|hp
  ·exact h1
  rcases List.mem_cons.mp hp with rfl|hp
  ·exact h2
  obtain⟨o,e,po⟩:=F.own.at' p (List.mem_cons_of_mem _ (List.mem_cons_of_mem _ (List.mem_cons_of_mem _ hp)))
  have ha:=ax hp
  exact⟨o,kp _ _ (λq=>n1.1 (q▸List.mem_cons_of_mem _ (List.mem_cons_of_mem _ ha))) (λq=>F.cS _ (List.mem_cons_of_mem _ (List.mem_cons_of_mem _ (List.mem_cons_of_mem _ ha))) (q▸hT)) (λq=>n2.1 (q▸List.mem_cons_of_mem _ ha)) (λq=>n3.1 (q▸ha)) e,po⟩
 ·rcases List.mem_cons.mp hp with rfl|hp
  ·exact Zo.nt
  rcases List.mem_cons.mp hp with rfl|hp
  ·exact Lit.nt
  rcases List.mem_cons.mp hp with rfl|hp
  ·exact Lit.nt
  exact F.own.nt p (List.mem_cons_of_mem _ (List.mem_cons_of_mem _ (List.mem_cons_of_mem _ hp)))
theorem I'{Q:Value->Heap->Prop}(F:Fx ρ g L m l h)(ha:Ls g l1 xs)(hb:Ls g l2 ys)(k:∀z TI TO i1 i2 g' h',Sub g g'->TO∉adr ρ->Zp g' TI i1 i2 l1 l2 xs ys->Fx ((TO,bT .none .none)::ρ) g' L m (Zl z TI TO i1 i2 l1 l2 0 l) h'->Q (.ref z) h'):Wp A (call (.type "zip") [.ref l1,.ref l2]) Q E h:=by
 refine .of ?_;intro gg d kk o Q' E' hQ hE
 obtain⟨o1,e1,p1⟩:=ha.up F.keep
 obtain⟨o2,e2,p2⟩:=hb.up F.keep
 refine call_zip_2 (s:=⟨h,gg,d,kk,o⟩) (p1.isList e1) (p2.isList e2) λh' hz l_ o5 I_ qC hY hk=>hQ _ _ _ ?_
 dsimp only at hz l_ o5 I_ qC hY hk
 have lt:∀{b:Addr} {o:Obj},h.get? b=some o->b<h.objs.size:=Heap.lt_size
 have fr:∀n,h.get? (h.objs.size+n)=none:=λn=>by
  cases e:h.get? (h.objs.size+n) with
  |none=>rfl
  |some o=>exact absurd (lt e) (Nat.not_lt.mpr (Nat.le_add_right _ _))
 have fg:∀n,g.get? (h.objs.size+n)=none:=λn=>by
  cases e:g.get? (h.objs.size+n) with
  |none=>rfl
  |some o=>have:=F.keep _ _ e;replace this:=(fr ..)▸this;cases this
 have nl:∀n,h.objs.size+n∉adr l:=λn hm=>by
  refine aP (f5 hm) λp hp=>?_
  obtain⟨o,e,ζ⟩:=F.own.at' _ hp
  replace e:=(fr ..)▸e;cases e
 have nr:∀n,h.objs.size+n∉adr ρ:=λn hm=>by
  refine aU (List.mem_map.mp hm) λp hp e=>?_
  obtain⟨ζ,sl,e2⟩:=F.fr p hp
  replace e2:=(fr ..)▸e▸e2;cases e2
 have nL:∀n,h.objs.size+n≠L:=λn=>Nat.ne_of_gt (Nat.lt_of_lt_of_le F.ns.lt (Nat.le_add_right _ _))
 have nd:=F.own.nd
 obtain⟨g',S,F'⟩:=Fx.grow (L:=L) (m:=m) (ρ:=(h.objs.size+3,bT .none .none)::ρ) (l:=Zl (h.objs.size+4) (h.objs.size+2) (h.objs.size+3) (h.objs.size+0) (h.objs.size+1) l1 l2 0 l) (h:=h') g (f6 F.ns λo e=>hk _ _ e)
  ⟨λp hp=>by
   rcases List.mem_cons.mp hp with rfl|hp
   ·exact⟨_,hz,rfl⟩
   rcases List.mem_cons.mp hp with rfl|hp
   ·exact Gt.of I_
   rcases List.mem_cons.mp hp with rfl|hp
   ·exact Gt.of qC
   obtain⟨o,e,po⟩:=F.own.at' p hp
   exact⟨o,hk _ _ e,po⟩,by
   refine List.nodup_cons.mpr ⟨λq=>?_,List.nodup_cons.mpr ⟨λq=>?_,List.nodup_cons.mpr ⟨nl 1,nd⟩⟩⟩
   ·rcases List.mem_cons.mp q with q|q
    ·simp at q
    rcases List.mem_cons.mp q with q|q
    ·simp at q
    exact nl 4 q
   ·rcases List.mem_cons.mp q with q|q
    ·simp at q
    exact nl 0 q,λp hp=>by
   rcases List.mem_cons.mp hp with rfl|hp
   ·exact Zo.nt
   rcases List.mem_cons.mp hp with rfl|hp
   ·exact Lit.nt
   rcases List.mem_cons.mp hp with rfl|hp
   ·exact Lit.nt
   exact F.own.nt p hp⟩ (qK o5 (F.fr.ups hk)) (λb o e=>hk _ _ (F.keep b o e)) F.dz
  (λb hb=>by
   rcases List.mem_cons.mp hb with rfl|hb
   ·exact fg 4
   rcases List.mem_cons.mp hb with rfl|hb
   ·exact fg 0
   rcases List.mem_cons.mp hb with rfl|hb
   ·exact fg 1
   exact F.bo b hb)
  (λb hb=>by
   rcases List.mem_cons.mp hb with rfl|hb
   ·exact fg 3
   exact F.bH b hb)
  ⟨λq=>by
   rcases List.mem_cons.mp q with q|q
   ·exact nL 4 q.symm
   rcases List.mem_cons.mp q with q|q
   ·exact nL 0 q.symm
   rcases List.mem_cons.mp q with q|q
   ·exact nL 1 q.symm
   exact F.cz.1 q,λq=>by
   rcases List.mem_cons.mp q with q|q
   ·exact nL 3 q.symm
   exact F.cz.2 q⟩
  (λb hb hr=>by
   rcases List.mem_cons.mp hr with rfl|hr
   ·rcases List.mem_cons.mp hb with q|hb
    ·simp at q
    rcases List.mem_cons.mp hb with q|hb
    ·simp at q
    rcases List.mem_cons.mp hb with q|hb
    ·simp at q
    exact nl 3 hb
   ·rcases List.mem_cons.mp hb with rfl|hb
    ·exact nr 4 hr
    rcases List.mem_cons.mp hb with rfl|hb
    ·exact nr 0 hr
    rcases List.mem_cons.mp hb with rfl|hb
    ·exact nr 1 hr
    exact F.cS b hb hr)
 refine k _ (h.objs.size+2) _ _ _ g' h' S (nr 3) ⟨F'.max _ _ l_ (nL 2) (λq=>?_) λq=>?_,ha.up S,hb.up S⟩ F'
 ·rcases List.mem_cons.mp q with q|q
  ·simp at q
  rcases List.mem_cons.mp q with q|q
  ·simp at q
  rcases List.mem_cons.mp q with q|q
  ·simp at q
  exact nl 2 q
 ·rcases List.mem_cons.mp q with q|q
  ·simp at q
  exact nr 2 q
end
section
variable{A:Around}{E:Value->Heap->Prop}{h h' g:Heap}{env:Env}{L C:Addr}{m mC:Str->Option Value}{ρ ρ':List (Addr×Obj)}{l cs:List Cell}{z TI TO i1 i2 l1 l2:Addr}{i j:Nat}{oL oT:Obj}
theorem Ad{o:Obj}(e:h.get? L=some o)(x:Ac m o):h.Ns L m:=by
 refine dm x λes ep d r=>?_
 clear x
 exact⟨o,es,ep,e,d,r⟩
theorem comp_back(F:Fx ((L,oL)::(TO,oT)::ρ) g C mC (cs++l) h)(hn:Ac m oL)(hL:L∉adr ((TO,oT)::ρ))(hT:TO∉adr ρ)(kp:∀c o,c∉adr cs->c≠TO->h.get? c=some o->h'.get? c=some o):Nx ρ g L m ((C,Ac mC)::l) h':=by
 have inl:∀b,b∈adr l->b∈adr (cs++l):=λb hb=>by refine aq.symm▸?_;exact List.mem_append_right _ hb
 have inc:∀b,b∈adr cs->b∈adr (cs++l):=λb hb=>by refine aq.symm▸?_;exact List.mem_append_left _ hb
 have mL:L∈adr ((L,oL)::(TO,oT)::ρ):=List.mem_cons_self
 have mT:TO∈adr ((L,oL)::(TO,oT)::ρ):=List.mem_cons_of_mem _ List.mem_cons_self
 have mr:∀b,b∈adr ρ->b∈adr ((L,oL)::(TO,oT)::ρ):=λb hb=>List.mem_cons_of_mem _ (List.mem_cons_of_mem _ hb)
 have nd:=F.own.nd
 replace nd:=aq▸nd
 refine u9 (List.nodup_append.mp nd) λn1 n2 n3=>?_
 refine jH (id F.ns) λoC OM ON JZ rC=>?_
 obtain⟨ζ,sl,eL⟩:=F.fr (L,oL) List.mem_cons_self
 have ng:∀{b c:Addr} {o:Obj},g.get? b=some o->g.get? c=none->b≠c:=λe n q=>by subst q;replace n:=e▸n;cases n
 refine Fx.grow g (Ad (kp _ _ (λq=>F.cS _ (inc _ q) mL) (λq=>hL (q▸List.mem_cons_self)) eL) ?_) ⟨λp hp=>?_,List.nodup_cons.mpr ⟨λq=>F.cz.1 (inl _ q),n2⟩,λp hp=>?_⟩ (λp hp=>?_)
  (λb o e=>kp b o (λq=>ng e (F.bo _ (inc _ q)) rfl) (ng e (F.bH _ mT)) (F.keep b o e)) (F.bH _ mL) (λb hb=>?_) (λb hb=>F.bH _ (mr _ hb)) ⟨λq=>?_,λq=>hL (List.mem_cons_of_mem _ q)⟩ λb hb hr=>?_
 ·exact hn
 ·rcases List.mem_cons.mp hp with rfl|hp
  ·exact⟨oC,kp _ _ (λq=>F.cz.1 (inc _ q)) (λq=>F.cz.2 (q▸mT)) JZ,OM,ON,rC⟩
  ·obtain⟨o,e,po⟩:=F.own.at' p (List.mem_append_right _ hp)
   exact⟨o,kp _ _ (λq=>n3 _ q _ (ax hp) rfl) (λq=>F.cS _ (inl _ (ax hp)) (q▸mT)) e,po⟩
 ·rcases List.mem_cons.mp hp with rfl|hp
  ·exact Ac.nt
  ·exact F.own.nt p (List.mem_append_right _ hp)
 ·obtain⟨ζ,sl,e⟩:=F.fr p (List.mem_cons_of_mem _ (List.mem_cons_of_mem _ hp))
  exact⟨trivial,sl,kp _ _ (λq=>F.cS _ (inc _ q) (mr _ (ax hp))) (λq=>hT (q▸ax hp)) e⟩
 ·rcases List.mem_cons.mp hb with rfl|hb
  ·exact F.dz
  ·exact F.bo _ (inl _ hb)
 ·rcases List.mem_cons.mp q with q|q
  ·exact F.cz.2 ((show C=L from q.symm)▸mL)
  ·exact F.cS _ (inl _ q) mL
 ·rcases List.mem_cons.mp hb with rfl|hb
  ·exact F.cz.2 (mr _ hr)
  ·exact F.cS _ (inl _ hb) (mr _ hr)
inductive Zb(ρ:List (Addr×Obj))(L:Addr)(xs ys:List Value)(y:Str)(I:Nat->List Value->Heap->List Cell->Prop)(J:Heap->List Cell->Prop)(Q:Flow->Heap->Prop)(E:Value->Heap->Prop)(v:Value)(h1:Heap):Prop
 |mk (z TI TO i1 i2 l1 l2:Addr) (g:Heap) (m:Str->Option Value) (l:List Cell) (e:v= .ref z) (hT:TO∉adr ρ) (Z:Zp g TI i1 i2 l1 l2 xs ys) (F:Fx ((TO,bT .none .none)::ρ) g L m (Zl z TI TO i1 i2 l1 l2 0 l) h1) (i0:I 0 [] g l)
   (fin:∀D vs aV bY aQ bj,I (min xs.length ys.length) vs aV aQ->Sub aV bY->Fx ρ bY L (λz=>if z=y then some (.ref D) else m z) ((D,Lo vs)::aQ) bj->Q .next bj)
   (bad:∀a T aV bY aQ c bj,J aV aQ->Sub aV bY->Fx ρ bY L m (X a T++(c++aQ)) bj->E (.ref a) bj):Zb ρ L xs ys y I J Q E v h1
noncomputable abbrev Z4(z TI TO i1 i2 l1 l2 D:Addr)(j:Nat)(vs:List Value):List Cell:=[(z,Zo TI TO),(i1,Lit l1 j),(i2,Lit l2 j),(D,Lo vs)]
inductive Zi(I:Nat->List Value->Heap->List Cell->Prop)(gC:Heap)(L:Addr)(oL:Obj)(ρ:List (Addr×Obj))(C:Addr)(x cP:Str)(z TI TO i1 i2 l1 l2 D:Addr)(n:Nat)(gg:Array GenState)(d:Drawn)(o:OsState)(q:Nat)(s:Shared):Prop
 |mk (i:Nat) (vs:List Value) (aX:Heap) (a b:Value) (u1 u2:Option Value) (l₁:List Cell) (h':Heap) (k':Nat) (es:s=⟨h',gg,d,k',o⟩) (eq:q=n-i) (hi:i<=n) (S:Sub gC aX) (hI:I i vs aX l₁) (F:Fx ((L,oL)::(TO,bT a b)::ρ) aX C (mv [x,cP] [u1,u2]) (Zl z TI TO i1 i2 l1 l2 i ((D,Lo vs)::l₁)) h'):Zi I gC L oL ρ C x cP z TI TO i1 i2 l1 l2 D n gg d o q s
theorem mD{elt iter:Expr}{x cP y:Str}{px jT tp py:Pos}{tk:Nat}{scope:Scope}{cl:List (Str×Addr)}{pos lI:Pos}{xs ys:List Value}{Q:Flow->Heap->Prop}{ns gs:List Str}(hh:A.handled=none)(O:Ev env L ns gs)(hB:Ab A env L ρ)(EO:y∈ns)
  (EP:swapsWith (.ListComp elt [⟨.Tuple [.Name x px,.Name cP jT] tk tp,iter,[],0⟩] scope pos) (some (.Name y py)) lI.line env=pure true)(dN:closureFor scope env=pure cl)
  (km:(scope.names.all (λy=>y.2 !=.cell&&(y.2 !=.local||scope.names.lookup y.1==some .local))&&scope.kind==.function&&scope.names.lookup x==some .local&&scope.names.lookup cP==some .local&&x !=cP)=true)
  (I:Nat->List Value->Heap->List Cell->Prop)(J:Heap->List Cell->Prop)(hy:∀i vs g l,I i vs g l->vs.length<=10000)(hu:∀i vs g g' l,Sub g g'->I i vs g l->I i vs g' l)
  (start:Wp A (eval iter env) (Zb ρ L xs ys y I J Q E) E h)
  (turn:∀i v1 v2 vs aX l h cs C oL TO oT,xs[i]? =some v1->ys[i]? =some v2->I i vs aX l->Ao A ((L,oL)::(TO,oT)::ρ)->isTup oT=true->Fx ((L,oL)::(TO,oT)::ρ) aX C (mv [x,cP] [some v1,some v2]) (cs++l) h->
   Wp A (eval elt (compEnvC scope cl C env)) (λu h2=>∃aV aQ,Fx ((L,oL)::(TO,oT)::ρ) aV C (mv [x,cP] [some v1,some v2]) (cs++aQ) h2/\Sub aX aV/\I (i+1) (vs++[u]) aV aQ) (λe h2=>∃a T aV m₂ aQ,e= .ref a/\Fx ((L,oL)::(TO,oT)::ρ) aV C m₂ (X a T++(cs++aQ)) h2/\J aV aQ) h)
  (hs:∀x,foldedSetIterable iter env x=pure x:=by intro _;rfl):Wp A (exec (.Assign [.Name y py] (.ListComp elt [⟨.Tuple [.Name x px,.Name cP jT] tk tp,iter,[],0⟩] scope pos) lI) env) Q E h:=by
 refine .of ?_;intro gg d k o Q' E' hQ hE
 simp only[Bool.and_eq_true,List.all_eq_true,Bool.or_eq_true,bne_iff_ne,beq_iff_eq] at km
 obtain⟨⟨⟨⟨h1,h2⟩,h3⟩,Tn⟩,PU⟩:=km
 refine(exec_Assign_Name_used _ _ _ _ EP).symm▸?_
 refine wpAny_bind (wpAny_standAt (wpAny_bind ?_))
 show wpAny _ A (do let _ <-comprehension (.ListComp elt [⟨.Tuple [.Name x px,.Name cP jT] tk tp,iter,[],0⟩] scope pos) scope env _ (newList []) false (eval iter env) (some (assign (.Name y py) env))) _ _ _
 refine wpAny_bind (wpAny_mono (wpAny_comprehension_free (use:=some (assign (.Name y py) env)) (Q:=λζ s'=>Q' .next s') rfl hs dN h2 (λy hy hl=>(h1 y hy).2.resolve_left λq=>q hl)
  (start.go gg d k o _ _ (λv h4 k4 q=>?_) hE)) (λζ s' hq=>wpAny_pure (wpAny_pure hq)) λζ ζ e=>e)
 obtain⟨z,TI,TO,i1,i2,l1,l2,g,m,l,rfl,Cm,Z,F,hI,fin,bad⟩:=q
 obtain⟨oz,ez,pz⟩:=F.get (a:=z) (p:=Zo TI TO) List.mem_cons_self
 obtain rfl:oz=_:=pz
 refine wpAny_pyIter_zip (s:=⟨h4,gg,d,k4,o⟩) ez ?_
 refine wpAny_newObj_type ?_
 have F1:=F.push (nF [] 0) (p:=Lo []) ⟨rfl,rfl,0,rfl⟩ Lo.nt
 show wpAny _ _ (newFunctionEnv scope env.globals cl [] env.qual none .none (some env)) _ _ ⟨h4.push (nF [] 0),gg,d,k4,o⟩
 generalize hH:h4.push (nF [] 0)=H at F1
 generalize hD:h4.objs.size=D at F1
 refine wpAny_newFunctionEnv (s:=⟨H,gg,d,k4,o⟩) (λy hy=>(h1 y hy).1) (λy hy=>nomatch hy) (λh₁ fY AN=>?_) h2
 dsimp only at fY AN ⊢
 have F2:Fx ((TO,bT .none .none)::ρ) g L m (Zl z TI TO i1 i2 l1 l2 0 ((D,Lo [])::l)) H:=F1.perm (by
  show List.Perm ((D,Lo [])::[(z,Zo TI TO),(i1,Lit l1 0),(i2,Lit l2 0)]++l) ([(z,Zo TI TO),(i1,Lit l1 0),(i2,Lit l2 0)]++(D,Lo [])::l)
  exact List.perm_middle.symm)
 refine jH (id F2.ns) λoL O2 O3 i9 rL=>?_
 have PX:Ac m oL:=⟨O2,O3,rL⟩
 have k1:Sub H h₁:=λb ob e=>AN.extBut b ob (Nat.ne_of_lt (Heap.lt_size e)) (Heap.get?_push_of_some _ e)
 have Gv:H.objs.size≠L:=Nat.ne_of_gt (Heap.lt_size i9)
 have Kj:L∉adr ((TO,bT .none .none)::ρ):=F2.cz.2
 have To:=aS F2.ns i9
 obtain⟨gC,SC,FC⟩:Nx ((L,oL)::(TO,bT .none .none)::ρ) g H.objs.size (mv [x,cP] [none,none]) (Zl z TI TO i1 i2 l1 l2 0 ((D,Lo [])::l)) h₁:=by
  refine Fx.grow g ?_ (F2.own.ups k1) (λp hp=>?_) (F2.keep.trans k1) F2.keep.fresh F2.bo (λb hb=>?_) ⟨F2.own.fresh,λq=>?_⟩ λb hb hr=>?_
  ·have e:(λy=>List.lookup y (([]:List (Str×Value)).reverse))=mv [x,cP] [none,none]:=by
    funext y
    unfold mv
    split
    ·rfl
    ·unfold mv
     split
     ·rfl
     ·unfold mv;rfl
   refine e▸?_;exact fY
  ·rcases List.mem_cons.mp hp with rfl|hp
   ·exact⟨trivial,oL.slots,by refine(ite_self ..).symm▸?_;exact k1 _ _ i9⟩
   ·exact F2.fr.ups k1 p hp
  ·rcases List.mem_cons.mp hb with rfl|hb
   ·exact F2.dz
   ·exact F2.bH b hb
  ·rcases List.mem_cons.mp q with q|q
   ·exact Gv q
   ·exact F2.fr.fresh q
  ·rcases List.mem_cons.mp hr with rfl|hr
   ·exact F2.cz.1 hb
   ·exact F2.cS b hb hr
 have e0:({newEnv scope H.objs.size env.globals cl env.qual none .none (some env) builtinsNs with scope:=relabel scope env}:Env)=compEnvC scope cl H.objs.size env:=rfl
 refine e0.symm▸?_
 have gw:∀oT,isTup oT=true->Ao A ((L,oL)::(TO,oT)::ρ):=λoT ht=>by
  obtain⟨nd,hf,hk,bZ,outer,sY,eS,lB,nY⟩:=hB
  refine⟨List.nodup_cons.mpr ⟨Kj,List.nodup_cons.mpr ⟨Cm,nd⟩⟩,bZ::outer,sY,.cons lB eS (λvs q=>?_) To (.skip ht nY)⟩
  replace q:=rL.1▸q;cases q
 generalize H.objs.size=C at FC Gv e0 ⊢
 have loop:∀k₀,codeAny (model PW w) A (.compLoop (.ListComp elt [⟨.Tuple [.Name x px,.Name cP jT] tk tp,iter,[],0⟩] scope pos) 0 (.ref z) (.ref D) (compEnvC scope cl C env)) (compPost (model PW w) A E' (some (assign (.Name y py) env)) (λζ s'=>Q' .next s') (.ref D) C) ⟨h₁,gg,d,k₀,o⟩:=λk₀=>by
  refine LCp.codeAny_compLoop_pair (Zi I gC L oL ρ C x cP z TI TO i1 i2 l1 l2 D (min xs.length ys.length) gg d o) ?_ _ ⟨0,[],gC,.none,.none,none,none,l,h₁,k₀,rfl,rfl,Nat.zero_le _,Sub.refl _,hu _ _ _ _ _ SC hI,FC⟩
  rintro q s ⟨i,vs,aX,a,b,u1,u2,l₁,h',k',rfl,rfl,hi,S1,PY,F3⟩
  have hT:TO∈adr ((L,oL)::(TO,bT a b)::ρ):=List.mem_cons_of_mem _ List.mem_cons_self
  have Z3:=Z.up (SC.trans S1)
  have D3:=F3.apart hT Z3
  obtain⟨oz,ez,pz⟩:=F3.get (a:=z) (p:=Zo TI TO) List.mem_cons_self
  obtain rfl:oz=_:=pz
  have I_:=(F3.get (a:=i1) (p:=Lit l1 i) (List.mem_cons_of_mem _ List.mem_cons_self)).ex
  have qC:=(F3.get (a:=i2) (p:=Lit l2 i) (List.mem_cons_of_mem _ (List.mem_cons_of_mem _ List.mem_cons_self))).ex
  have o5:h'.get? TO=some (bT a b):=by
   obtain⟨ζ,sl,e⟩:=F3.fr (TO,bT a b) (List.mem_cons_of_mem _ List.mem_cons_self)
   replace e:=(if_pos (eG [a,b] 0))▸e;exact e
  obtain⟨oA,eA,pA⟩:=Z3.a.up F3.keep
  obtain⟨oB,eB,pB⟩:=Z3.b.up F3.keep
  by_cases kj:i<min xs.length ys.length
  ·refine aP (⟨_,List.getElem?_eq_getElem (Nat.lt_of_lt_of_le kj (Nat.min_le_left ..))⟩:∃v,xs[i]? =some v) λv1 PZ=>?_
   refine aP (⟨_,List.getElem?_eq_getElem (Nat.lt_of_lt_of_le kj (Nat.min_le_right ..))⟩:∃v,ys[i]? =some v) λv2 Kk=>?_
   refine wpAny_pyNext_zip_item (s:=⟨h',gg,d,k',o⟩) D3 ez (F3.keep _ _ Z3.ti) o5 I_ qC (pA.isList eA) (pB.isList eB) (by simpa using PZ) (by simpa using Kk) λh5 a1 a2 a3 a4 a5 a6 hk=>?_
   dsimp only at a1 a2 a3 a4 a5 a6 hk ⊢
   refine wpAny_letOwnedTupleGo_zip (s:=⟨h5,gg,d,k',o⟩) a1 λh6 Tq Kl=>?_
   have kp:∀c ob,c≠z->c≠TO->c≠i1->c≠i2->h'.get? c=some ob->h6.get? c=some ob:=λc ob c1 c2 c3 c4 e=>(Kl.2 c c1).trans (hk c ob c1 c2 c3 c4 e)
   have mz:z∈adr (Zl z TI TO i1 i2 l1 l2 i ((D,Lo vs)::l₁)):=List.mem_cons_self
   have m1:i1∈adr (Zl z TI TO i1 i2 l1 l2 i ((D,Lo vs)::l₁)):=List.mem_cons_of_mem _ List.mem_cons_self
   have m2:i2∈adr (Zl z TI TO i1 i2 l1 l2 i ((D,Lo vs)::l₁)):=List.mem_cons_of_mem _ (List.mem_cons_of_mem _ List.mem_cons_self)
   have Km:∀{b:Addr} {ob:Obj},h5.get? b=some ob->b≠z->h6.get? b=some ob:=λe q=>(Kl.2 _ q).trans e
   obtain⟨g4,S4,F4⟩:=Fx.I9 (ρ':=(L,oL)::(TO,bT v1 v2)::ρ) (j:=i+1) F3 hT rfl (λp hp=>by
    rcases List.mem_cons.mp hp with rfl|hp
    ·obtain⟨ζ,sl,e⟩:=F3.fr (L,oL) List.mem_cons_self
     exact⟨trivial,sl,kp _ _ (λq=>F3.cS _ mz (q▸List.mem_cons_self)) (λq=>Kj ((show L=TO from q)▸List.mem_cons_self)) (λq=>F3.cS _ m1 (q▸List.mem_cons_self)) (λq=>F3.cS _ m2 (q▸List.mem_cons_self)) e⟩
    ·refine qK (Km a2 D3.TOz) (λp hp=>?_) p hp
     obtain⟨ζ,sl,e⟩:=F3.fr p (List.mem_cons_of_mem _ (List.mem_cons_of_mem _ hp))
     have hm:=List.mem_cons_of_mem L (List.mem_cons_of_mem TO (ax hp))
     exact⟨trivial,sl,kp _ _ (λq=>F3.cS _ mz (q▸hm)) (λq=>Cm (q▸ax hp)) (λq=>F3.cS _ m1 (q▸hm)) (λq=>F3.cS _ m2 (q▸hm)) e⟩) kp ⟨_,Tq,rfl⟩
    (by obtain⟨ob,e,r⟩:=a3;exact⟨ob,Km e D3.i1z,r⟩) (by obtain⟨ob,e,r⟩:=a4;exact⟨ob,Km e D3.i2z,r⟩)
   have lt:∀{b:Addr} {ob:Obj},h'.get? b=some ob->h'.objs.size≠b:=λe=>Nat.ne_of_gt (Heap.lt_size e)
   have MT:Tp g4 h'.objs.size [v1,v2]:=⟨0,F4.max _ _ (Km a5 (lt ez)) (λq=>absurd F3.ns.lt (by refine q▸?_;exact Nat.lt_irrefl _)) F3.own.fresh F3.fr.fresh⟩
   refine Wp.go (A:=A) (E:=λζ ζ=>False) (Q:=λζ h7=>Nx ((L,oL)::(TO,bT v1 v2)::ρ) g4 C (mv [x,cP] [some v1,some v2]) (Zl z TI TO i1 i2 l1 l2 (i+1) ((D,Lo vs)::l₁)) h7) (h:=h6) (eK hh F4 (MT.up F4.keep.aj) rfl rfl λg5 h7 S5 F5=>.of λgg d kk o Q3 E3 Ts V1=>?_) gg d _ o _ _ (λζ h7 k7 q7=>?_) λe h7 k7 q=>q.elim
   ·show wpAny _ _ (assignInOrder [assign (.Name x px) (compEnvC scope cl C env),assign (.Name cP jT) (compEnvC scope cl C env)] [v1,v2]) _ _ _
    refine assignInOrder_cons (wpAny_assign_Name (wpAny_storeName_local (s:=⟨h7,gg,d,kk,o⟩) (lookup_relabel_local h3) F5.ns (λh8 Tt Tv=>?_) (by show((relabel scope env).kind==.class||((relabel scope env).kind==.module&&_))=false;refine(show(relabel scope env).kind=scope.kind from rfl).symm▸h2.symm▸?_;rfl)))
    have F6:=F5.set Tt Tv
    refine assignInOrder_cons (wpAny_assign_Name (wpAny_storeName_local (s:=⟨h8,gg,d,_,o⟩) (lookup_relabel_local Tn) F6.ns (λh9 Tw Tx=>?_) (by show((relabel scope env).kind==.class||((relabel scope env).kind==.module&&_))=false;refine(show(relabel scope env).kind=scope.kind from rfl).symm▸h2.symm▸?_;rfl)))
    refine assignInOrder_nil (Ts _ _ _ ⟨g5,S5,(F6.set Tw Tx).map ?_⟩)
    funext n
    simp only[mv]
    by_cases e2:n=cP
    ·subst e2;simp[Ne.symm PU]
    ·by_cases e1:n=x
     ·subst e1;simp[PU]
     ·simp[e1,e2]
   ·obtain⟨g5,S5,F5⟩:=q7
    have P':=hu _ _ _ _ _ (S4.trans S5) PY
    refine Wp.go (turn i v1 v2 vs g5 l₁ h7 (Z4 z TI TO i1 i2 l1 l2 D (i+1) vs) C oL TO (bT v1 v2) PZ Kk P' (gw _ (eG [v1,v2] 0)) (eG [v1,v2] 0) F5) gg d k7 o _ _ (λu h8 k8 q8=>?_) λe h8 k8 q8=>?_
    ·refine fv q8 λaV aQ F8 S8 Tz=>?_
     clear q8
     refine(kI (A:=A) (E:=λζ ζ=>False) (l₀:=[(z,Zo TI TO),(i1,Lit l1 (i+1)),(i2,Lit l2 (i+1))]) (l₁:=aQ) F8 (hy _ _ _ _ P') (v:=u) (Q:=λζ h9=>Fx ((L,oL)::(TO,bT v1 v2)::ρ) aV C (mv [x,cP] [some v1,some v2]) (Zl z TI TO i1 i2 l1 l2 (i+1) ((D,Lo (vs++[u]))::aQ)) h9) λh9 F9=>F9).go gg d k8 o _ _ (λζ h9 k9 F9=>?_) λe h9 k9 q=>q.elim
     exact⟨min xs.length ys.length-(i+1),Nat.sub_succ_lt_self _ _ kj,i+1,vs++[u],aV,v1,v2,_,_,aQ,h9,k9,rfl,rfl,kj,S1.trans (S4.trans (S5.trans S8)),Tz,F9⟩
    ·refine Rc q8 λa T aV m₂ aQ ak F8 hJ=>?_
     clear q8
     obtain rfl:=ak
     obtain⟨g8,S8,F9⟩:=comp_back (cs:=[]) (l:=X a T++(Z4 z TI TO i1 i2 l1 l2 D (i+1) vs++aQ)) (h':=h8) F8 PX Kj Cm λζ ζ ζ ζ e=>e
     have fC:Fx ρ g8 L m (X a T++((C,Ac m₂)::(Z4 z TI TO i1 i2 l1 l2 D (i+1) vs++aQ))) h8:=F9.perm List.perm_middle.symm
     refine Wp.go (nX (hB.comp h2) fC (E:=λζ ζ=>False) (Q:=λζ h9=>∃T' g9,Sub g8 g9/\Fx ρ g9 L m (X a T'++((C,Ac m₂)::(Z4 z TI TO i1 i2 l1 l2 D (i+1) vs++aQ))) h9) λT' g9 h9 S9 iA=>⟨T',g9,S9,iA⟩) gg d k8 o _ _ (λζ h9 k9 q9=>?_) λe h9 k9 q=>q.elim
     refine dm q9 λT' g9 S9 iA=>?_
     clear q9
     obtain⟨oC,eC,pC⟩:=iA.get (a:=C) (p:=Ac m₂) (List.mem_append_right _ List.mem_cons_self)
     refine⟨m₂,Ad eC pC,λoE Nh cB P_=>?_⟩
     obtain⟨j7,ft,dY⟩:=gM (iA.perm List.perm_middle) Nh
     unfold PySem.passOn
     obtain⟨oe,he,pX,OG,mM,TA⟩:=dY.get (a:=a) (p:=EC T') List.mem_cons_self
     refine wpAny_bind (wpAny_field (s:=⟨oE,gg,d,k9,o⟩) he mM TA ?_)
     refine(if_neg (show ¬((Value.ref T'==Value.none)=true) from by simp)).symm▸?_
     refine wpAny_bind (Wp.go (A:=A) (E:=λζ ζ=>False) (Q:=λζ nh=>Fx ρ j7 L m (X a T'++(Z4 z TI TO i1 i2 l1 l2 D (i+1) vs++aQ)) nh) (h:=oE) (dM dY λnh eD=>eD) gg d k9 o _ _ (λζ nh V2 eD=>?_) λe h9 k9 q=>q.elim)
     exact wpAny_throw (hE _ _ _ (bad a T' aV j7 aQ _ nh hJ (S8.trans (S9.trans ft)) eD))
  ·have e:i=min xs.length ys.length:=K7 (by assumption) (by assumption)
   subst e
   refine wpAny_pyNext_zip_end (s:=⟨h',gg,d,k',o⟩) hh D3 ez (F3.keep _ _ Z3.ti) o5 I_ qC (pA.isList eA) (pB.isList eB) ?_ λh5 hk=>?_
   ·rcases Nat.le_total xs.length ys.length with q|q
    ·exact .inl (by refine(Nat.min_eq_left q).symm▸?_;simp)
    ·exact .inr (by refine(Nat.min_eq_right q).symm▸?_;simp)
   obtain⟨g4,S4,F4⟩:=comp_back (cs:=[(z,Zo TI TO),(i1,Lit l1 _),(i2,Lit l2 _)]) (h':=h5) F3 PX Kj Cm λc ob hc c2 e=>hk c ob (λq=>hc (q▸List.mem_cons_self)) c2 (λq=>hc (q▸List.mem_cons_of_mem _ List.mem_cons_self)) (λq=>hc (q▸List.mem_cons_of_mem _ (List.mem_cons_of_mem _ List.mem_cons_self))) e
   show wpAny _ A (assign (.Name y py) env (.ref D)) _ _ _
   refine wpAny_assign_Name (wpAny_storeName_local (s:=⟨h5,gg,d,k',o⟩) (O.lk _ EO).1 (O.loc▸F4.ns) (λh6 Ni Kl=>?_) (by refine O.kind.symm▸?_;rfl))
   have F5:=F4.set (O.loc▸Ni) (O.loc▸Kl)
   obtain⟨oC,eC,pC⟩:=F5.get (a:=C) (p:=Ac _) List.mem_cons_self
   refine⟨_,Ad eC pC,λh7 TB=>?_⟩
   obtain⟨g6,S6,F6⟩:=gM F5 TB
   exact hQ _ _ _ (fin D vs aX g6 l₁ h7 PY (S4.trans S6) F6)
 exact codeAny_compStart_list (loop _) (by
  obtain⟨oz,ez,pz⟩:=FC.get (a:=z) (p:=Zo TI TO) List.mem_cons_self
  obtain rfl:oz=_:=pz
  exact wpAny_pyIter_zip (s:=⟨h₁,gg,d,_,o⟩) ez (loop _))
end
noncomputable def Ja(scope:Scope)(x cP:Str)(gs:List Str)(ks:List Str):Bool:=
 (scope.names.all (λy=>y.2 !=.cell&&(y.2 !=.local||scope.names.lookup y.1==some .local))&&scope.kind==.function&&scope.names.lookup x==some .local&&scope.names.lookup cP==some .local&&x !=cP)&&BP scope [x,cP] gs&&decide ks.Nodup&&ks.all λy=>scope.names.lookup y==some .free
section
variable{Γ:Cx}{A:Around}{E:Value->Heap->Prop}{m m':Str->Option Value}{l l' cs:List Cell}{g g' h h':Heap}{r:Nat}{ns gs:List Str}{cc:List (Str×Addr)}{e e':Expr}{s t:Sp}{pos:Pos}{ρ:List (Addr×Obj)}{C:Addr}
theorem iC(C:Co Γ r ns gs cc)(G:Gd g){x:Str}{v:Value}{E Q:Value->Heap->Prop}(hx:Gs gs x)(hv:Kv kS x v)(F:Fv Γ g m l h)(q:Q v h):Wp Γ.A (eval (.Name x pos) Γ.env) Q E h:=.of λgg d kk o Q' E' hQ hE=>by
 refine nE G λζ ζ G0=>?_
 clear G
 exact Name_function_global C.ev.kind (C.ev.gk _ hx.mem).1 (loadGlobal_builtin (C.ev.AK▸(G0.up F.keep).glob) (G0.gn hv.mem) (C.ev.Gn▸(G0.up F.keep).blt) (G0.bl hv.mem) (hQ _ _ _ q)) (C.ev.gk _ hx.mem).2
theorem Px.blt(C:Co Γ r ns gs cc)(G:Gd g){x:Str}{v:Value}(hx:Gs gs x)(hv:Kv kS x v):Px Γ m l g (.Name x pos) (.v v):=
 .val λE Q g1 h S F q=>iC C (G.up S) hx hv F q
theorem Ae{p:Pos}{xs ys:List Value}{Q:Value->Heap->Prop}(C:Co Γ r ns gs cc)(F:Fv Γ g m l h)(G:Gd g)(hx:Gs gs (U "zip"))(a:Px Γ m l g e (.l xs))(b:Px Γ m l g e' (.l ys))
  (k:∀z TI TO i1 i2 l1 l2 g' h',Sub g g'->TO∉adr Γ.ρ->Zp g' TI i1 i2 l1 l2 xs ys->Fx ((TO,bT .none .none)::Γ.ρ) g' Γ.L m (Zl z TI TO i1 i2 l1 l2 0 l) h'->Q (.ref z) h')
  (he:eval (.Call (.Name (U "zip") p) [e,e'] [] pos) Γ.env=(do callWith pos (<-eval (.Name (U "zip") p) Γ.env) [] (backTo pos (starEach [e,e'] Γ.env)) (backToKw pos (keywordEach [] Γ.env))):=by rfl)
  (h1:starEach [e,e'] Γ.env=(false,eval e Γ.env)::starEach [e'] Γ.env:=by rfl)(h2:starEach [e'] Γ.env=(false,eval e' Γ.env)::starEach [] Γ.env:=by rfl):Wp Γ.A (eval (.Call (.Name (U "zip") p) [e,e'] [] pos) Γ.env) Q E h:=
 bw ((Px.blt C G hx (.tl (.tl (.tl (.tl .hd))))).go _ _ g h (Sub.refl _) F λv g2 h3 S2 F2 q=>by
  obtain rfl:v= .type "zip":=q
  refine dU ((Pa.cons a (Pa.cons b Pa.nil h2) h1).go pos _ _ g2 h3 S2 F2 λvs g3 h4 S3 F3 ar=>?_) h1 (by refine h2.symm▸?_;rfl)
  obtain⟨ζ,ζ,rfl,⟨l1,rfl,q1⟩,⟨l2,rfl,q2⟩⟩:=kA ar
  exact I' F3 q1 q2 λz TI TO i1 i2 g4 h5 S4 nT Z F4=>k z TI TO i1 i2 l1 l2 g4 h5 (S2.trans (S3.trans S4)) nT Z F4) he
theorem lX{elt:Expr}{x cP y:Str}{px jT tp py p:Pos}{tk:Nat}{scope:Scope}{cl:List (Str×Addr)}{Cn lI:Pos}{xs ys:List Value}{gs':List Str}{Q:Flow->Heap->Prop}(C:Co Γ r ns gs cc)(F:Fv Γ g m l h)(G:Gd g)(hB:Ab Γ.A Γ.env Γ.L Γ.ρ)(hx:Gs gs (U "zip"))(a:Px Γ m l g e (.l xs))(b:Px Γ m l g e' (.l ys))(EO:Gs ns y)(E6:∀p∈cl,p∈cc)
  (EP:swapsWith (.ListComp elt [⟨.Tuple [.Name x px,.Name cP jT] tk tp,.Call (.Name (U "zip") p) [e,e'] [] pos,[],0⟩] scope Cn) (some (.Name y py)) lI.line Γ.env=pure true)(dN:closureFor scope Γ.env=pure cl)(km:Ja scope x cP gs' (cl.map (·.1))=true)
  (I:Nat->List Value->Heap->List Cell->Prop)(J:Heap->List Cell->Prop)(hy:∀i vs g l,I i vs g l->vs.length<=10000)(hu:∀i vs g g' l,Sub g g'->I i vs g l->I i vs g' l)(i0:I 0 [] g l)
  (turn:∀i v1 v2 vs aX l h cs C oL TO oT cB,xs[i]? =some v1->ys[i]? =some v2->I i vs aX l->Ev cB C [x,cP] gs'->Ec cB cl->Ao Γ.A ((Γ.L,oL)::(TO,oT)::Γ.ρ)->isTup oT=true->Fx ((Γ.L,oL)::(TO,oT)::Γ.ρ) aX C (mv [x,cP] [some v1,some v2]) (cs++l) h->
   Wp Γ.A (eval elt cB) (λu h2=>∃aV aQ,Fx ((Γ.L,oL)::(TO,oT)::Γ.ρ) aV C (mv [x,cP] [some v1,some v2]) (cs++aQ) h2/\Sub aX aV/\I (i+1) (vs++[u]) aV aQ) (λe h2=>∃a T aV m₂ aQ,e= .ref a/\Fx ((Γ.L,oL)::(TO,oT)::Γ.ρ) aV C m₂ (X a T++(cs++aQ)) h2/\J aV aQ) h)
  (done:∀D vs aV bY aQ bj m',I (min xs.length ys.length) vs aV aQ->Sub aV bY->Fv Γ bY m' ((D,Lo vs)::aQ) bj->St m y (.ref D) m'->Q .next bj)
  (bad:∀a T aV bY aQ c bj,J aV aQ->Sub aV bY->Fv Γ bY m (X a T++(c++aQ)) bj->E (.ref a) bj)
  (he:eval (.Call (.Name (U "zip") p) [e,e'] [] pos) Γ.env=(do callWith pos (<-eval (.Name (U "zip") p) Γ.env) [] (backTo pos (starEach [e,e'] Γ.env)) (backToKw pos (keywordEach [] Γ.env))):=by rfl)
  (h1:starEach [e,e'] Γ.env=(false,eval e Γ.env)::starEach [e'] Γ.env:=by rfl)(h2:starEach [e'] Γ.env=(false,eval e' Γ.env)::starEach [] Γ.env:=by rfl)
  (hs:∀x,foldedSetIterable (.Call (.Name (U "zip") p) [e,e'] [] pos) Γ.env x=pure x:=by intro _;rfl):Wp Γ.A (exec (.Assign [.Name y py] (.ListComp elt [⟨.Tuple [.Name x px,.Name cP jT] tk tp,.Call (.Name (U "zip") p) [e,e'] [] pos,[],0⟩] scope Cn) lI) Γ.env) Q E h:=by
 unfold Ja at km
 replace km:=(Bool.and_eq_true ..)▸(Bool.and_eq_true ..)▸(Bool.and_eq_true ..)▸km
 obtain⟨⟨⟨c1,c2⟩,c3⟩,c4⟩:=km
 refine mD (xs:=xs) (ys:=ys) (ρ:=Γ.ρ) (L:=Γ.L) C.rm.hd C.ev hB EO.mem EP dN c1 I J hy hu ?_ ?_ hs
 ·refine Ae C F G hx a b (λz TI TO i1 i2 l1 l2 g2 h3 S2 nT Z F2=>?_) he h1 h2
  exact⟨z,TI,TO,i1,i2,l1,l2,g2,m,l,rfl,nT,Z,F2,hu _ _ _ _ _ S2 i0,λD vs aV bY aQ bj q S3 F3=>done D vs aV bY aQ bj _ q S3 F3 rfl,bad⟩
 ·intro i v1 v2 vs aX l h cs C' oL TO oT e1 e2 hI ao ht F1
  refine turn i v1 v2 vs aX l h cs C' oL TO oT _ e1 e2 hI (uJ C.ev c2) (uK C.ev C.ec E6 (of_decide_eq_true c3) ?_) ao ht F1
  replace c4:=List.all_map▸c4
  exact c4
theorem Fx.TG(F:Fx ρ g C m (cs++l) h):Gx ρ g l h:=by
 have inl:∀b,b∈adr l->b∈adr (cs++l):=λb hb=>by refine aq.symm▸?_;exact List.mem_append_right _ hb
 have key:∀b o,h.get? b=some o->b∉adr l->b∉adr ρ->(hideAll h (adr l++adr ρ)).get? b=some o:=λb o e h2 h3=>hideAll_get _ e λq=>(List.mem_append.mp q).elim h2 h3
 refine⟨hideAll h (adr l++adr ρ),⟨F.own.of_append.2,λb o e=>of_hideAll _ e,λb hb=>hideAll_none _ (List.mem_append_left _ hb),λb hb=>hideAll_none _ (List.mem_append_right _ hb),λb hb=>F.cS b (inl b hb),F.fr,key⟩,λb o e=>key b o (F.keep b o e) (λq=>?_) λq=>?_⟩
 ·replace e:=(F.bo b (inl b q))▸e;cases e
 ·replace e:=(F.bH b q)▸e;cases e
theorem Fx.Jb(F:Fx ρ g C m (cs++l) h)(s:Step ρ l h l' h'):Nx ρ g C m (cs++l') h':=by
 have inl:∀b,b∈adr l->b∈adr (cs++l):=λb hb=>by refine aq.symm▸?_;exact List.mem_append_right _ hb
 have:=Fx.mid (l₀:=cs) (l₁:=[]) (by rw[List.append_nil];exact F) s (f6 F.ns λo e=>s.keep _ _ e (λq=>F.cz.1 (inl _ q)) F.cz.2) s.fr λb hb=>.inr hb
 rwa [List.append_nil] at this
theorem Fx.Nj{g2:Heap}(F:Fx ρ g' C m (cs++l') h')(y:Gr ρ g2 h' l'):cy g2 g':=λa o t e=>by
 have e':=y.sub a o e
 refine F.max a o e' (λq=>?_) (F.own.cI e' t) λq=>?_
 ·have:=aS F.ns (q▸e')
  replace this:=t▸this;cases this
 ·replace e:=(y.bH a q)▸e;cases e
end
section
variable{A:Around}{h g:Heap}{R:Result->Heap->Prop}{k:dg}{b:BS}{ρ:List (Addr×Obj)}{sn nt:Addr}
def lY(B:List Row)(op:Str)(sw:Bool)(is js:List Nat):Prop:=∀n j a c,js[n]? =some j->is[n]? =some a->is[n+1]? =some c->B[j]? =some (op,[((if sw then c else a:Nat):Int),((if sw then a else c:Nat):Int)],0,.inl 0)
def bI(B:List Row)(is:List Nat)(n:Nat):Prop:=∀i<n,∀a c r r',is[i]? =some a->is[i+1]? =some c->B[a]? =some r->B[c]? =some r'->r'.2.2.1=r.2.2.1
inductive d6(B B':List Row)(op:Str)(sw:Bool)(is:List Nat)(j:Nat):Prop
 |mk (js:List Nat) (B1:List Row) (hl:js.length=is.length-1) (up:lY B1 op sw is js) (ex:Ext B B1) (c:Ii B1 (bA js) j B') (ln:B1.length<=B.length+js.length):d6 B B' op sw is j
inductive Ri(k:dg)(b:BS)(g0:Heap)(op:Str)(sw:Bool)(is:List Nat)(i:Nat)(vs:List Value)(g:Heap):List Cell->Prop
 |mk (b':BS) (js:List Nat) (bk:Bk k b'.B b'.ops b'.args b'.sorts b'.ae b'.xs g) (S:Sub g0 g) (ex:Ext b.B b'.B) (ln:b'.B.length<=b.B.length+i) (hi:i<=3) (hj:js.length=i) (iv:IntsAre vs (bA js)) (up:lY b'.B op sw is js) (so:bI b.B is i):Ri k b g0 op sw is i vs g (b'.l k)
inductive Rj(k:dg)(b:BS)(g0:Heap)(is:List Nat)(g:Heap):List Cell->Prop
 |mk (b':BS) (bk:Bk k b'.B b'.ops b'.args b'.sorts b'.ae b'.xs g) (S:Sub g0 g) (ex:Ext b.B b'.B) (ln:b'.B.length<=b.B.length+3) (so:¬bI b.B is (is.length-1)):Rj k b g0 is g (b'.l k)
theorem lY.snoc{B B':List Row}{op:Str}{sw:Bool}{is js:List Nat}{o a c:Nat}(x:lY B op sw is js)(ex:Ext B B')(ea:is[js.length]? =some a)(ec:is[js.length+1]? =some c)(e:B'[o]? =some (op,[((if sw then c else a:Nat):Int),((if sw then a else c:Nat):Int)],0,.inl 0)):lY B' op sw is (js++[o]):=by
 intro n j a' c' hj ha hc
 by_cases hn:n<js.length
 ·replace hj:=(List.getElem?_append_left hn)▸hj
  exact ex.get (x n j a' c' hj ha hc)
 ·have HU:n=js.length:=by
   have:=(List.getElem?_eq_some_iff.mp hj).1
   simp at this;lia
  subst HU
  replace ha:=ea▸ha;cases ha
  replace hc:=ec▸hc;cases hc
  simp at hj
  subst hj
  exact e
theorem bI.snoc{B:List Row}{is:List Nat}{n a c:Nat}{r r':Row}(x:bI B is n)(ea:is[n]? =some a)(ec:is[n+1]? =some c)(er:B[a]? =some r)(kx:B[c]? =some r')(e:r'.2.2.1=r.2.2.1):bI B is (n+1):=by
 intro i hi a' c' r1 r2 ha hc h1 h2
 by_cases hn:i<n
 ·exact x i hn a' c' r1 r2 ha hc h1 h2
 ·obtain rfl:i=n:=by lia
  replace ha:=ea▸ha;cases ha
  replace hc:=ec▸hc;cases hc
  replace h1:=er▸h1;cases h1
  replace h2:=kx▸h2;cases h2
  exact e
theorem Af{nm op:Str}{sw:Bool}{sa:Addr}{vs:List Value}{is:List Nat}{tn tt:Tok}(sg:Sign nm op sw)(x:Gr ρ g h (b.l k))(I3:eH ρ)(gw:Ao A ρ)(G:Gd g)(N:In w.params g nt 732 [(U "bank",.ref k.self)])(I:In w.params g k.self 638 k.al)(At:dS k)(Z:Sf k sn g)(AO:k.al.lookup (U "true_number")=some (.int 1 tt))(bk:Bk k b.B b.ops b.args b.sorts b.ae b.xs h)(hA:Rm A 9)(hz:b.B.length<=4900)
  (hl:Ls g sa vs)(hi:IntsAre vs (bA is))(h0:is≠[])(h4:is.length<=4)(ht:∀i∈is,∃r,b.B[i]? =some r/\(r.2.2.1=1\/r.2.2.1=2))
  (K:∀(j:Nat) t (b':BS) h',Step ρ (b.l k) h (b'.l k) h'->Bk k b'.B b'.ops b'.args b'.sorts b'.ae b'.xs h'->bI b.B is (is.length-1)->d6 b.B b'.B op sw is j->R (.ok (.ret (.int j t))) h')
  (Kb:¬bI b.B is (is.length-1)->∀e T (b':BS) h',Step ρ (b.l k) h (X e T++b'.l k) h'->Bk k b'.B b'.ops b'.args b'.sorts b'.ae b'.xs h'->Ext b.B b'.B->b'.B.length<=b.B.length+3->R (.error (.ref e)) h'):
  Cd A (.call (.ref 715) ⟨[.ref nt,.str nm tn,.ref sa],[]⟩) R h:=by
 refine dG [(U "some",.ref sa)] [U "rows"] (λn=>[(U "name",n+1),(U "self",n)]) (λn=>[(n+1,some (.str nm tn)),(n,some (.ref nt))]) (binds:=[(U "self",.ref nt),(U "name",.str nm tn),(U "some",.ref sa)]) (ns:=[U "some",U "rows"]) (gs:=[U "zip"]) (r:=8) x I3 G hA (f' G) (f_ G) rfl rfl rfl rfl (λn=>by k_extra "R") (λn=>by k_extra "R") (by kernel_rfl) (λn=>rfl) λΓ m g1 wX eX hE bS C P S F=>?_
 have hB:Ab Γ.A Γ.env Γ.L Γ.ρ:=by refine eX.symm▸?_;exact Ab.H7 gw hE bS C.ev
 replace F:Fv Γ g1 m ((Γ.L+1+1,Ce (some (.str nm tn)))::(Γ.L+1,Ce (some (.ref nt)))::b.l k) wX:=F
 obtain⟨ga,Sa,kn,Fa⟩:=F.fX
 obtain⟨g2,S2,ks,F2⟩:=Fa.fX
 have kn:Ck g2 (Γ.L+1+1) (.str nm tn):=(show Ck ga (Γ.L+1+1) (.str nm tn) from kn).up S2
 have ks:Ck g2 (Γ.L+1) (.ref nt):=ks
 have DH:=S.trans (Sa.trans S2)
 have DA:=(bk.up (x.aj I3)).lf DH
 have wZ:=bG hi
 clear F Fa
 refine ab λQ1 gE=>?_
 refine lX (xs:=vs) (ys:=vs.drop 1) (gs':=[]) C F2 (G.up DH) hB (by k_extra "a") (Px.qZ (Px.local C (v:=.ref sa) (by k_extra "a") (by k_extra "w")) (hl.up DH)) (Px.from (xs:=vs) (i:=1) (Px.qZ (Px.local C (v:=.ref sa) (by k_extra "a") (by k_extra "w")) (hl.up DH)) (Px.lu rfl) (by k_extra "z")) (by k_extra "a") (cl:=[(U "self",Γ.L+1),(U "name",Γ.L+1+1)]) (by simp) (by refine hE.symm▸?_;k_extra "R") (by refine hE.symm▸?_;k_extra "R") (by kernel_rfl)
  (Ri k b g2 op sw is) (Rj k b g2 is) (λi vs g l q=>?_) (λi vs g g' l S q=>?_) ?_ ?_ ?_ ?_
 ·cases q with|mk b' js bk S ex ln hi hj iv up so=>rw[bG iv];k_extra "z"
 ·cases q with|mk b' js bk S0 ex ln hi hj iv up so=>exact .mk b' js (bk.lf S) (S0.trans S) ex ln hi hj iv up so
 ·exact .mk b [] DA (Sub.refl _) (.refl _) (Nat.le_refl _) (by k_extra "z") rfl .nil (λn j a c e=>by simp at e) λi hi=>absurd hi (Nat.not_lt_zero _)
 ·intro i v1 v2 us g3 l h3 cs C' oL TO oT cB e1 e2 hI hv hc ao hT F3
  cases hI with|mk b3 js rf S3 DI Nk GJ GI Nl Ko Jc=>
  refine dm (cw hi i v1 e1) λa ta ea ak=>?_
  obtain rfl:=ak
  refine dm (cw hi (i+1) v2 (by replace e2:=(Nat.add_comm ..)▸List.getElem?_drop▸e2;exact e2)) λc tc ec ak=>?_
  obtain rfl:=ak
  refine aU (ht a (List.mem_of_getElem? ea)) λr1 Ft EB=>?_
  refine aU (ht c (List.mem_of_getElem? ec)) λr2 B2 fZ=>?_
  have Nn:i+1<is.length:=(List.getElem?_eq_some_iff.mp ec).1
  have Kp:=DH.trans S3
  have V3:=kn.up S3
  have V4:=ks.up S3
  have hG:=G.up Kp
  have hN:=N.up Kp
  have hr:Rm Γ.A 8:=C.rm
  k_extra "T"
  obtain⟨G4,x4,S4⟩:=Fx.TG F3
  have TH:∀e T h',Step ((Γ.L,oL)::(TO,oT)::Γ.ρ) (b3.l k) h3 (X e T++b3.l k) h'->Nx ((Γ.L,oL)::(TO,oT)::Γ.ρ) g3 C' (mv [U "a",U "b"] [some (.int (a:Int) ta),some (.int (c:Int) tc)]) (X e T++(cs++b3.l k)) h':=λe T h' st=>by
   obtain⟨g5,S5,F5⟩:=Fx.Jb F3 st
   exact⟨g5,S5,F5.perm (by refine(List.append_assoc ..)▸(List.append_assoc ..)▸?_;exact List.perm_append_comm.append_right _)⟩
  refine Wp.call (jS (b:=b3) sg x4 ao (hG.up S4) (hN.up S4) (I.up (Kp.trans S4)) At (Z.lf (Kp.trans S4)) (rf.lf S4) (hr.less (by decide)) (by k_extra "z") (DI.get Ft) (DI.get B2) EB fZ ⟨λku o t b4 g5 h' st y Sy FL mk=>?_,λip qF T h' st=>?_⟩)
  ·have pL:r2.2.2.1=r1.2.2.1:=by cases sw <;> first|exact ku|exact ku.symm
   obtain⟨g6,S6,F6⟩:=Fx.Jb F3 st
   have l4:=mk.len
   refine⟨g6,_,F6,S6,.mk b4 (js++[o]) (FL.up (F6.Nj y)) (S3.trans S6) (DI.trans mk.ext) (by k_extra "z") (by lia) (by simp[GI]) (jy Nl o t) (Ko.snoc mk.ext (by refine GI.symm▸?_;exact ea) (by refine GI.symm▸?_;exact ec) mk.at) (Jc.snoc ea ec Ft B2 pL)⟩
  ·obtain⟨g5,S5,F5⟩:=TH qF T h' st
   exact⟨qF,T,g5,_,_,rfl,F5,.mk b3 (rf.lf S5) (S3.trans S5) DI (by k_extra "z") λq=>ip (by
    have:=q i (a1 (by assumption)) a c r1 r2 ea ec Ft B2
    cases sw <;> first|exact this|exact this.symm)⟩
 ·intro D us g3 g4 l h3 m' hI S4 F3 M
  replace hI:=wZ▸(Nat.min_eq_right (Nat.sub_le _ _))▸List.length_drop▸hI
  cases hI with|mk b3 js rf S3 DI Nk GJ GI Nl Ko Jc=>
  obtain⟨g5,S5,hD,F5⟩:=Fx.freeze F3
  have Np:=DH.trans (S3.trans (S4.trans S5))
  have X5:Bf k b3 (b3.l k) g5:=⟨G.up Np,I.up Np,At,rf.lf (S4.trans S5),λζ h=>h,by k_extra "z"⟩
  refine gE.go ?_
  refine ab λQ2 iZ=>?_
  refine bJ ?_
  refine di C F5 X5.gd (f:=350) (Px.zJ (x:=nt) (v:=.ref k.self) X5.gd (Px.cell C (v:=.ref nt) (by k_extra "a") (ks.up (S3.trans (S4.trans S5)))) (N.up Np) rfl rfl (by k_extra "R")) (λv g2 S2 q=>⟨k.self,q,Mt.fW (X5.lf S2) (by k_extra "a")⟩) (by k_extra "R") (by k_extra "R") (Pa.cons (s:=.v (.ref D)) (by k_extra "v") Pa.nil (by k_extra "R")) (λg6 h6 S6 F6=>?_) (by k_extra "R") (by k_extra "R")
  obtain⟨G7,x7,S7⟩:=Fx.bF F6
  have hb:uI b3.B (bA js):=λz hz=>by
   refine aU (List.mem_map.mp hz) λj hj ak=>?_
   obtain rfl:=ak
   refine aP (List.mem_iff_getElem?.mp hj) λn hn=>?_
   have Ia:=(List.getElem?_eq_some_iff.mp hn).1
   exact⟨j,_,rfl,Ko n j _ _ hn (List.getElem?_eq_getElem (a2 (by assumption) Ia)) (List.getElem?_eq_getElem (a3 (by assumption) Ia)),rfl⟩
  refine Wp.call (zu (k:=k) (B:=b3.B) x7 (X5.gd.up (S6.trans S7)) (X5.inst.up (S6.trans S7)) At AO ((X5.bk.lf S6).lf F6.keep) (C.rm.less (by decide)) (by k_extra "z") ((hD.up S6).up F6.keep) (hD.up (S6.trans S7)) Nl hb (by simp;k_extra "z") λj t B' av ai af ag aO h8 st TJ cj=>?_)
  obtain⟨g9,S9,F9⟩:=Fx.aT F6 st
  refine iZ.ret (ah ?_)
  exact K j t ⟨B',av,ai,af,ag,aO⟩ h8 (x.d5 eX F9 (DH.trans (S3.trans (S4.trans (S5.trans (S6.trans S9)))))) TJ Jc (.mk js b3.B (by k_extra "z") Ko DI cj (by lia))
 ·intro a T g3 g4 l c h3 hJ S4 F4
  cases hJ with|mk b3 rf S3 DI Nk Jc=>
  obtain⟨g5,S5,ζ,F5⟩:=Fx.weak (l':=X a T++b3.l k) F4 (List.Sublist.append (List.Sublist.refl _) (List.sublist_append_right _ _))
  refine gu (l:=b3.l k) hB F5 λT2 g6 h6 S6 F6=>?_
  exact Kb Jc a T2 b3 h6 (x.d5 eX F6 (DH.trans (S3.trans (S4.trans (S5.trans S6))))) (rf.lf (S4.trans (S5.trans (S6.trans F6.keep)))) DI Nk
end
inductive tU(k:dg)(lr:List Cell)(P:Nat->BS->Prop):Value->List Cell->Heap->Prop
 |mk (j:Nat) (t:Tok) (b':BS) (h:Heap) (bk:Bk k b'.B b'.ops b'.args b'.sorts b'.ae b'.xs h) (p:P j b'):tU k lr P (.int (j:Int) t) (b'.l k++lr) h
inductive mE(k:dg)(lr:List Cell)(P:BS->Prop):List Cell->Heap->Prop
 |mk (b':BS) (h:Heap) (bk:Bk k b'.B b'.ops b'.args b'.sorts b'.ae b'.xs h) (p:P b'):mE k lr P (b'.l k++lr) h
theorem tU.go{k:dg}{lr l:List Cell}{P0:Nat->BS->Prop}{v:Value}{g h:Heap}{ρ:List (Addr×Obj)}{L:Addr}{m:Str->Option Value}{G:Prop}(q:tU k lr P0 v l h)(F:Fx ρ g L m l h)(go:∀(j:Nat) (t:Tok) (b':BS),v= .int (j:Int) t->Fx ρ g L m (b'.l k++lr) h->Bk k b'.B b'.ops b'.args b'.sorts b'.ae b'.xs h->P0 j b'->G):G:=by
 cases q with|mk j t b' _ bk p=>exact go j t b' rfl F bk p
theorem mE.go{k:dg}{lr l:List Cell}{P0:BS->Prop}{g h:Heap}{ρ:List (Addr×Obj)}{L:Addr}{m:Str->Option Value}{G:Prop}(q:mE k lr P0 l h)(F:Fx ρ g L m l h)(go:∀b':BS,Fx ρ g L m (b'.l k++lr) h->Bk k b'.B b'.ops b'.args b'.sorts b'.ae b'.xs h->P0 b'->G):G:=by
 cases q with|mk b' _ bk p=>exact go b' F bk p
theorem mE.up{k:dg}{lr:List Cell}{P:BS->Prop}{l:List Cell}{h h':Heap}(x:mE k lr P l h)(t:cy h h'):mE k lr P l h':=by
 cases x with|mk b' _ bk p=>exact .mk b' h' (bk.up t) p
section
variable{k:dg}{b:BS}{g:Heap}{nt sn f c':Addr}{qual:Str}{params:Arguments}{body e e':Expr}{scope:Scope}{cl:List (Str×Addr)}{pm ek:Value}{lr:List Cell}{vs:List Value}{p1 p2 p3:Pos}
theorem tV{i0:Nat}{ts:List Nat}{r0:Row}{nn dd:Nat}(G:Gd g)
  (ho:g.get? f=some (kla_obj "<lambda>" qual params body scope cl pm c' ek))(i8:g.CodeRec (.ref c') qual)(bB:bindArgs (kla_fn "<lambda>" qual params body scope cl pm (.ref c') ek) ⟨[],[]⟩=pure [])
  (g_:(ij (kla_fn "<lambda>" qual params body scope cl pm (.ref c') ek) [] []&&scope.names.all (λy=>y.2 !=.cell)&&!scope.isCoroutine&&!scope.isGenerator)=true)
  (bK:body= .Call (.Attribute (.Name (U "given") p1) (U "quotient") p2) [e] [] p3)
  (x0:∀Γ m l,Γ.env=callEnv (kla_fn "<lambda>" qual params body scope cl pm (.ref c') ek) Γ.L f->Px Γ m l g (.Name (U "given") p1) (.v (.ref nt)))(N:In w.params g nt 732 [(U "bank",.ref k.self)])
  (ha:∀Γ m l,Γ.env=callEnv (kla_fn "<lambda>" qual params body scope cl pm (.ref c') ek) Γ.L f->Co Γ 9 [] [] []->Px Γ m l g e (.l vs))
  (I:In w.params g k.self 638 k.al)(At:dS k)(Z:Sf k sn g)(bk:Bk k b.B b.ops b.args b.sorts b.ae b.xs g)(hz:b.B.length<=4900)(hi:IntsAre vs (bA (i0::ts)))(h3:ts.length<=3)(zW:b.B[i0]? =some r0)(ht:∀i∈i0::ts,∃s,(s=1\/s=2)/\aF b.B nn dd s i)(h1:1<=nn)(hn:nn<=500)
  (he:∀env,∃pl:Sem Bool,eval (.Call (.Attribute (.Name (U "given") p1) (U "quotient") p2) [e] [] p3) env=(do
   let ov <-eval (.Name (U "given") p1) env
   standAt p2.atName
   let(f,first) <-holding [ov] (getMethod ov (U "quotient") pl)
   callWith p3 f first (backTo p3 (starEach [e] env)) []))
  (B6:∀env,starEach [e] env=(false,eval e env)::starEach [] env):
  wy f 10 g (b.l k++lr) (tU k lr λj b'=>Let b.B r0 ts/\qH b.B i0 r0 nn dd (ay b.B ts) b'.B j/\Ext b.B b'.B/\b'.B.length<=b.B.length+10) (mE k lr λb'=>¬Let b.B r0 ts/\Ext b.B b'.B/\b'.B.length<=b.B.length+10):=by
 refine tM (n:=9) (fm:=703) (ss:=[.l vs]) G ho i8 bB g_ bK x0 (Mt.eO G N (by k_extra "a") rfl) rfl rfl (λΓ m l hE C=>Pa.cons (ha Γ m l hE C) Pa.nil (B6 _)) (λA ρ G2 h R us gw wc hA x S a kg kb=>?_) (λl' h h' q t=>q.up t) he B6
 cases a with|cons a1 a2=>
 cases a2
 refine aU a1 λsa ak hl=>?_
 clear a1
 obtain rfl:=ak
 obtain⟨G3,x3,S3⟩:=x.front
 have bP:=S.trans S3
 refine tS (nt:=nt) (k:=k) (b:=b) x3 wc gw (G.up bP) (N.up bP) (I.up bP) At (Z.lf bP) ((bk.lf bP).lf x3.sub) hA hz (hl.up S3) hi h3 zW ht h1 hn (λj t b' h' st b2 p1 p2 p3 p4=>?_) λhb e T b' h' st b2 p3 p4=>?_
 ·exact kg _ _ h' (Step.front x st) (.mk j t b' h' b2 ⟨p1,p2,p3,p4⟩)
 ·have i7:=Step.front x st
  replace i7:=(List.append_assoc ..)▸i7
  exact kb e T _ h' i7 (.mk b' h' b2 ⟨hb,p3,p4⟩)
theorem Ag{nm op:Str}{sw:Bool}{is:List Nat}{tn tt:Tok}(sg:Sign nm op sw)(G:Gd g)
  (ho:g.get? f=some (kla_obj "<lambda>" qual params body scope cl pm c' ek))(i8:g.CodeRec (.ref c') qual)(bB:bindArgs (kla_fn "<lambda>" qual params body scope cl pm (.ref c') ek) ⟨[],[]⟩=pure [])
  (g_:(ij (kla_fn "<lambda>" qual params body scope cl pm (.ref c') ek) [] []&&scope.names.all (λy=>y.2 !=.cell)&&!scope.isCoroutine&&!scope.isGenerator)=true)
  (bK:body= .Call (.Attribute (.Name (U "given") p1) (U "row_of") p2) [e,e'] [] p3)
  (x0:∀Γ m l,Γ.env=callEnv (kla_fn "<lambda>" qual params body scope cl pm (.ref c') ek) Γ.L f->Px Γ m l g (.Name (U "given") p1) (.v (.ref nt)))(N:In w.params g nt 732 [(U "bank",.ref k.self)])
  (ha:∀Γ m l,Γ.env=callEnv (kla_fn "<lambda>" qual params body scope cl pm (.ref c') ek) Γ.L f->Co Γ 9 [] [] []->Px Γ m l g e (.v (.str nm tn))/\Px Γ m l g e' (.l vs))
  (I:In w.params g k.self 638 k.al)(At:dS k)(Z:Sf k sn g)(AO:k.al.lookup (U "true_number")=some (.int 1 tt))(bk:Bk k b.B b.ops b.args b.sorts b.ae b.xs g)(hz:b.B.length<=4900)(hi:IntsAre vs (bA is))(h0:is≠[])(h4:is.length<=4)(ht:∀i∈is,∃r,b.B[i]? =some r/\(r.2.2.1=1\/r.2.2.1=2))
  (he:∀env,∃pl:Sem Bool,eval (.Call (.Attribute (.Name (U "given") p1) (U "row_of") p2) [e,e'] [] p3) env=(do
   let ov <-eval (.Name (U "given") p1) env
   standAt p2.atName
   let(f,first) <-holding [ov] (getMethod ov (U "row_of") pl)
   callWith p3 f first (backTo p3 (starEach [e,e'] env)) []))
  (B6:∀env,starEach [e,e'] env=(false,eval e env)::starEach [e'] env)(Nq:∀env,starEach [e'] env=(false,eval e' env)::starEach [] env):
  wy f 10 g (b.l k++lr) (tU k lr λj b'=>bI b.B is (is.length-1)/\d6 b.B b'.B op sw is j) (mE k lr λb'=>¬bI b.B is (is.length-1)/\Ext b.B b'.B/\b'.B.length<=b.B.length+3):=by
 refine tM (n:=9) (fm:=715) (ss:=[.v (.str nm tn),.l vs]) G ho i8 bB g_ bK x0 (Mt.eO G N (by k_extra "a") rfl) rfl rfl (λΓ m l hE C=>Pa.cons (ha Γ m l hE C).1 (Pa.cons (ha Γ m l hE C).2 Pa.nil (Nq _)) (B6 _)) (λA ρ G2 h R us gw wc hA x S a kg kb=>?_) (λl' h h' q t=>q.up t) he B6
 obtain⟨ζ,ζ,rfl,q1,⟨sa,rfl,hl⟩⟩:=kA a
 obtain rfl:=q1
 obtain⟨G3,x3,S3⟩:=x.front
 have bP:=S.trans S3
 refine Af (nt:=nt) (k:=k) (b:=b) sg x3 wc gw (G.up bP) (N.up bP) (I.up bP) At (Z.lf bP) AO ((bk.lf bP).lf x3.sub) hA hz (hl.up S3) hi h0 h4 ht (λj t b' h' st b2 p1 p2=>?_) λhb e T b' h' st b2 p3 p4=>?_
 ·exact kg _ _ h' (Step.front x st) (.mk j t b' h' b2 ⟨p1,p2⟩)
 ·have i7:=Step.front x st
  replace i7:=(List.append_assoc ..)▸i7
  exact kb e T _ h' i7 (.mk b' h' b2 ⟨hb,p3,p4⟩)
end
noncomputable abbrev tW(TI TO:Addr)(f0:Value)(f:Bool):Obj:={cls:=.type "zip",dict:=none,data:=.fields #[f0,.bool f,.bool false,.ref TI,.ref TO],slots:=#[]}
section
variable{A:Around}{E:Value->Shared->Prop}{s:Shared}{z TI TO i1 i2 l1 l2 T:Addr}{k1 k2:Nat}{xs ys:Array Value}{x y:Value}{f:Bool}{oT:Obj}
theorem qL{Q:Bool->Shared->Prop}(hz:s.heap.get? z=some (tW TI TO (rawInt T) f))(hT:s.heap.get? T=some oT)(hQ:∀h',h'.get? z=some (tW TI TO (rawInt T) true)->Heap.SameBut z s.heap h'->Q false {s with heap:=h'}):wpAny (model PW w) A (Builtin.SmallTypes.ownedTupleIsFree (.ref z)) Q E s:=by
 unfold Builtin.SmallTypes.ownedTupleIsFree
 refine wpAny_bind (wpAny_field hz rfl (x:=rawInt T) rfl ?_)
 show wpAny _ _ (loadIfAlive ((T:Int).toNat)>>=_) _ _ _
 refine(Int.toNat_natCast ..).symm▸?_
 refine wpAny_bind (kdx_alive hT ?_)
 simp only[Option.isNone_some,Bool.false_eq_true,if_false]
 refine wpAny_bind (wpAny_field hz rfl (x:=.bool f) rfl ?_)
 cases f with
 |true=>
  refine(if_neg (show ¬((Value.bool true !=Value.bool true)=true) from Bool.false_ne_true)).symm▸?_
  exact wpAny_pure (hQ _ hz (Heap.SameBut.refl _ _))
 |false=>
  refine(if_pos (show(Value.bool false !=Value.bool true)=true from rfl)).symm▸?_
  refine wpAny_bind (wpAny_setField_rec hz (by simp) λqi Jd dv=>wpAny_pure (hQ _ Jd dv))
theorem oJ{Q:Option Value->Shared->Prop}(D:ZipApart z TI TO i1 i2 l1 l2)(hz:s.heap.get? z=some (tW TI TO (rawInt T) f))(hT:s.heap.get? T=some oT)(l_:IsPair s.heap TI (.ref i1) (.ref i2))
  (h1:s.heap.IsListIter i1 l1 k1)(h2:s.heap.IsListIter i2 l2 k2)(eW:s.heap.IsList l1 xs)(ni:s.heap.IsList l2 ys)(hx:xs[k1]? =some x)(hy:ys[k2]? =some y)
  (hQ:∀h',h'.get? z=some (tW TI TO (rawInt T) true)->h'.IsListIter i1 l1 (k1+1)->h'.IsListIter i2 l2 (k2+1)->IsPair h' s.heap.objs.size x y->
   (∀c o,c≠z->c≠i1->c≠i2->s.heap.get? c=some o->h'.get? c=some o)->Q (some (.ref s.heap.objs.size)) {s with heap:=h'}):
  wpAny (model PW w) A (pyNext (.ref z)) Q E s:=by
 have Je:s.TypeIs (.ref z) "zip":=⟨_,hz,rfl⟩
 unfold pyNext
 refine wpAny_bind (wpAny_attempt (wpAny_callSpecial?_slot (name:=Str.ofString "__next__") Je F.slot_zip_next
  (wpAny_call_entry F.slot_zip_next Je F.entry_zip_next ?_ (F.args_zip_next_1 _))))
 show wpAny _ _ (field (.ref z) 2>>=_) _ _ _
 refine wpAny_bind (wpAny_field hz rfl (x:=.bool false) rfl ?_)
 show wpAny _ _ (field (.ref z) 3>>=_) _ _ _
 refine wpAny_bind (wpAny_field hz rfl (x:=.ref TI) rfl ?_)
 refine wpAny_bind (wpAny_seqItems l_ rfl ?_)
 show wpAny _ _ (Builtin.SmallTypes.ownedTupleIsFree (.ref z)>>=_) _ _ _
 refine wpAny_bind (qL hz hT λh₁ uX cQ=>?_)
 simp only[Bool.false_eq_true,if_false,<-Array.forIn_toList,List.forIn_cons,List.forIn_nil]
 refine wpAny_bind ?_
 refine wpAny_bind (wpAny_bind (wpAny_holding ?_))
 show wpAny _ _ (Builtin.SmallTypes.nextOf (.ref i1)>>=_) _ _ _
 refine wpAny_bind (wpAny_nextOf_list_item (h1.extBut cQ.extBut D.i1z) (eW.extBut cQ.extBut D.l1z) hx λbj DJ d7=>wpAny_pure ?_)
 refine wpAny_pure ?_
 refine wpAny_bind (wpAny_bind (wpAny_holding ?_))
 show wpAny _ _ (Builtin.SmallTypes.nextOf (.ref i2)>>=_) _ _ _
 refine wpAny_bind (wpAny_nextOf_list_item ((h2.extBut cQ.extBut D.i2z).extBut d7.extBut D.i12.symm) ((ni.extBut cQ.extBut D.l2z).extBut d7.extBut D.l2i1) hy λqi Jf dv=>wpAny_pure ?_)
 refine wpAny_pure ?_
 refine wpAny_pure ?_
 show wpAny _ _ (newTuple [x,y]>>=λv=>ret v) _ _ _
 refine wpAny_bind (wpAny_newTuple ?_)
 have hY:qi.objs.size=s.heap.objs.size:=by rw[dv.1,d7.1,cQ.1]
 have kp:∀c o,c≠z->c≠i1->c≠i2->s.heap.get? c=some o->qi.get? c=some o:=λc o c1 c2 c3 e=>(dv.2 c c3).trans ((d7.2 c c2).trans ((cQ.2 c c1).trans e))
 refine wpAny_pure ⟨_,rfl,?_⟩
 show wpAny _ _ (pure (some (Value.ref qi.objs.size))) _ _ _
 refine hY.symm▸?_
 refine wpAny_pure (hQ _ (Heap.get?_push_of_some _ ((dv.2 z D.i2z.symm).trans ((d7.2 z D.i1z.symm).trans uX))) ?_ ?_ (by refine hY▸?_;exact Heap.get?_push_size _ rfl) λc o c1 c2 c3 e=>Heap.get?_push_of_some _ (kp c o c1 c2 c3 e))
 ·exact(DJ.extBut dv.extBut D.i12).at λo e=>Heap.get?_push_of_some _ e
 ·exact Jf.at λo e=>Heap.get?_push_of_some _ e
theorem qM{Q:Option Value->Shared->Prop}(hh:A.handled=none)(D:ZipApart z TI TO i1 i2 l1 l2)(hz:s.heap.get? z=some (tW TI TO (rawInt T) f))(hT:s.heap.get? T=some oT)(l_:IsPair s.heap TI (.ref i1) (.ref i2))
  (h1:s.heap.IsListIter i1 l1 k1)(h2:s.heap.IsListIter i2 l2 k2)(eW:s.heap.IsList l1 xs)(ni:s.heap.IsList l2 ys)(Cp:xs[k1]? =none\/ys[k2]? =none)
  (hQ:∀h',(∀c o,c≠z->c≠i1->c≠i2->s.heap.get? c=some o->h'.get? c=some o)->Q none {s with heap:=h'}):
  wpAny (model PW w) A (pyNext (.ref z)) Q E s:=by
 have Je:s.TypeIs (.ref z) "zip":=⟨_,hz,rfl⟩
 unfold pyNext
 refine wpAny_bind (wpAny_attempt (wpAny_callSpecial?_slot (name:=Str.ofString "__next__") Je F.slot_zip_next
  (wpAny_call_entry F.slot_zip_next Je F.entry_zip_next ?_ (F.args_zip_next_1 _))))
 show wpAny _ _ (field (.ref z) 2>>=_) _ _ _
 refine wpAny_bind (wpAny_field hz rfl (x:=.bool false) rfl ?_)
 show wpAny _ _ (field (.ref z) 3>>=_) _ _ _
 refine wpAny_bind (wpAny_field hz rfl (x:=.ref TI) rfl ?_)
 refine wpAny_bind (wpAny_seqItems l_ rfl ?_)
 show wpAny _ _ (Builtin.SmallTypes.ownedTupleIsFree (.ref z)>>=_) _ _ _
 refine wpAny_bind (qL hz hT λh₁ uX cQ=>?_)
 simp only[Bool.false_eq_true,if_false,<-Array.forIn_toList,List.forIn_cons,List.forIn_nil]
 refine wpAny_bind ?_
 refine wpAny_bind (wpAny_bind (wpAny_holding ?_))
 show wpAny _ _ (Builtin.SmallTypes.nextOf (.ref i1)>>=_) _ _ _
 cases hx:xs[k1]? with
 |none=>
  refine wpAny_bind (wpAny_nextOf_list_end hh (h1.extBut cQ.extBut D.i1z) (eW.extBut cQ.extBut D.l1z) hx λbj e d7 he=>?_)
  refine aU he λoe DK Di=>?_
  clear he
  refine wpAny_bind (wpAny_isInstance (T:="StopIteration") (b:=true) ⟨oe,DK,Di⟩ isSubtype_stop ?_)
  exact wpAny_pure (hQ _ λc o c1 c2 c3 e=>d7 _ _ c2 ((cQ.2 c c1).trans e))
 |some x=>
  have hy:ys[k2]? =none:=by rcases Cp with h|h;replace h:=hx▸h;cases h;exact h
  refine wpAny_bind (wpAny_nextOf_list_item (h1.extBut cQ.extBut D.i1z) (eW.extBut cQ.extBut D.l1z) hx λbj DJ d7=>wpAny_pure ?_)
  refine wpAny_pure ?_
  refine wpAny_bind (wpAny_bind (wpAny_holding ?_))
  show wpAny _ _ (Builtin.SmallTypes.nextOf (.ref i2)>>=_) _ _ _
  refine wpAny_bind (wpAny_nextOf_list_end hh ((h2.extBut cQ.extBut D.i2z).extBut d7.extBut D.i12.symm) ((ni.extBut cQ.extBut D.l2z).extBut d7.extBut D.l2i1) hy λqi e dv he=>?_)
  refine aU he λoe DK Di=>?_
  clear he
  refine wpAny_bind (wpAny_isInstance (T:="StopIteration") (b:=true) ⟨oe,DK,Di⟩ isSubtype_stop ?_)
  exact wpAny_pure (hQ _ λc o c1 c2 c3 e=>dv _ _ c3 ((d7.2 c c2).trans ((cQ.2 c c1).trans e)))
end
structure Kq(h:Heap)(S z TI TO i1 i2 l1 l2:Addr)(xs ys:Array Value)(i:Nat):Prop where
 z:(i=0/\h.get? z=some (tW TI TO .none false)/\∃a b,IsPair h TO a b)\/∃(T:Addr) (f:Bool) (oT:Obj),h.get? z=some (tW TI TO (rawInt T) f)/\h.get? T=some oT/\T≠S/\T≠z/\T≠i1/\T≠i2
 ti:IsPair h TI (.ref i1) (.ref i2)
 a:h.IsListIter i1 l1 i
 b:h.IsListIter i2 l2 i
 la:h.IsList l1 xs
 lb:h.IsList l2 ys
 to:∃o,h.get? TO=some o
def Nt(h:Heap)(sp:List Addr)(xs ys:Array Value)(vs:List Value)(i:Nat):Prop:=vs.length=i/\∀j<i,∃a x y,vs[j]? =some (.ref a)/\xs[j]? =some x/\ys[j]? =some y/\h.get? a=some (bT x y)/\a∉sp
section
variable{A:Around}{E:Value->Shared->Prop}{s:Shared}{S z TI TO i1 i2 l1 l2:Addr}{i:Nat}{xs ys:Array Value}
theorem oK{x y:Value}{Q:Option Value->Shared->Prop}(D:ZipApart z TI TO i1 i2 l1 l2)(hS:S<s.heap.objs.size)(Z:Kq s.heap S z TI TO i1 i2 l1 l2 xs ys i)(hx:xs[i]? =some x)(hy:ys[i]? =some y)
  (hQ:∀h',Kq h' S z TI TO i1 i2 l1 l2 xs ys (i+1)->IsPair h' s.heap.objs.size x y->(∀c o,c≠z->c≠TO->c≠i1->c≠i2->s.heap.get? c=some o->h'.get? c=some o)->Q (some (.ref s.heap.objs.size)) {s with heap:=h'}):wpAny (model PW w) A (pyNext (.ref z)) Q E s:=by
 obtain⟨hz,l_,h1,h2,eW,ni,Qg,Qh⟩:=Z
 rcases hz with⟨rfl,hz,a,b,o5⟩|⟨T,f,oT,hz,hT,nS,n1,n2,n3⟩
 ·have lt:∀{c:Addr} {o:Obj},s.heap.get? c=some o->s.heap.objs.size≠c:=λe=>Nat.ne_of_gt (Heap.lt_size e)
  exact wpAny_pyNext_zip_item D hz l_ o5 h1 h2 eW ni hx hy λh' a1 a2 a3 a4 a5 a6 hk=>hQ h' ⟨.inr ⟨s.heap.objs.size,false,_,a1,a5,Nat.ne_of_gt hS,lt hz,(let⟨_,e,_⟩:=h1;lt e),(let⟨_,e,_⟩:=h2;lt e)⟩,hk _ _ D.TIz D.TITO D.TIi1 D.TIi2 l_,a3,a4,eW.at λo e=>hk _ o D.l1z D.l1TO D.l1i1 D.l1i2 e,ni.at λo e=>hk _ o D.l2z D.l2TO D.l2i1 D.l2i2 e,_,a2⟩ a5 hk
 ·exact oJ D hz hT l_ h1 h2 eW ni hx hy λh' a1 a3 a4 a5 hk=>hQ h' ⟨.inr ⟨T,true,oT,a1,hk _ _ n1 n2 n3 hT,nS,n1,n2,n3⟩,hk _ _ D.TIz D.TIi1 D.TIi2 l_,a3,a4,eW.at λo e=>hk _ o D.l1z D.l1i1 D.l1i2 e,ni.at λo e=>hk _ o D.l2z D.l2i1 D.l2i2 e,Qg,hk _ _ D.TOz D.TOi1 D.TOi2 Qh⟩ a5 λc o c1 ζ c3 c4 e=>hk c o c1 c3 c4 e
theorem qN{Q:Option Value->Shared->Prop}(hh:A.handled=none)(D:ZipApart z TI TO i1 i2 l1 l2)(Z:Kq s.heap S z TI TO i1 i2 l1 l2 xs ys i)(Cp:xs[i]? =none\/ys[i]? =none)
  (hQ:∀h',(∀c o,c≠z->c≠TO->c≠i1->c≠i2->s.heap.get? c=some o->h'.get? c=some o)->Q none {s with heap:=h'}):wpAny (model PW w) A (pyNext (.ref z)) Q E s:=by
 obtain⟨hz,l_,h1,h2,eW,ni,Qg,Qh⟩:=Z
 rcases hz with⟨rfl,hz,a,b,o5⟩|⟨T,f,oT,hz,hT,nS,n1,n2,n3⟩
 ·exact wpAny_pyNext_zip_end hh D hz l_ o5 h1 h2 eW ni Cp hQ
 ·exact qM hh D hz hT l_ h1 h2 eW ni Cp λh' hk=>hQ h' λc o c1 ζ c3 c4 e=>hk c o c1 c3 c4 e
theorem Ah{n:Nat}{R:Result->Shared->Prop}{res:Value}{h₁:Heap}(hn:min xs.size ys.size=n)(Kr:n<=1000)(hh:A.handled=none)(D:ZipApart z TI TO i1 i2 l1 l2)(Nu:S∉[z,TI,TO,i1,i2,l1,l2])
  (hR:∀h' acc c,(∀b o,b∉[S,z,TO,i1,i2]->h₁.get? b=some o->h'.get? b=some o)->h'.get? S=some {cls:=.type "list",dict:=none,data:=.seq acc c,slots:=#[]}->Nt h' [S,z,TO,i1,i2] xs ys acc.toList n->R (.ok (.ret res)) {s with heap:=h'}):
  ∀(k i:Nat) (h:Heap) (c:Nat) (acc:Array Value),n-i=k->i<=n->Kq h S z TI TO i1 i2 l1 l2 xs ys i->(∀b o,b∉[S,z,TO,i1,i2]->h₁.get? b=some o->h.get? b=some o)->h.get? S=some {cls:=.type "list",dict:=none,data:=.seq acc c,slots:=#[]}->Nt h [S,z,TO,i1,i2] xs ys acc.toList i->
   codeAny (model PW w) A (.builtin "list.extend.loop" ⟨[.ref S,.ref z,res],[]⟩) R {s with heap:=h}:=by
 simp only[List.mem_cons,List.not_mem_nil,or_false,not_or] at Nu
 refine K5 Nu λs1 s2 s3 s4 s5 s6 s7=>?_
 clear Nu
 have Ks:∀{b:Addr},b∉[S,z,TO,i1,i2]->b≠S/\b≠z/\b≠TO/\b≠i1/\b≠i2:=λh=>by simpa only[List.mem_cons,List.not_mem_nil,or_false,not_or] using h
 intro k
 induction k with
 |zero=>
  intro i h c acc hk hi Z Ai hS P
  obtain rfl:i=n:=a7 (by assumption) (by assumption)
  refine codeAny_builtin PySem.F.entry_extend_loop ?_
  refine(Around.under_plainId PySem.F.plain_extend_loop _).symm▸?_
  show wpAny _ A.in1 (pyNext (.ref z)>>=_) _ _ _
  refine wpAny_bind (qN (s:={s with heap:=h}) (A:=A.in1) hh D Z ?_ λh' he=>?_)
  ·rcases Nat.le_total xs.size ys.size with q|q
   ·exact .inl (Array.getElem?_eq_none (by refine hn▸(Nat.min_eq_left q).symm▸?_;exact Nat.le_refl _))
   ·exact .inr (Array.getElem?_eq_none (by refine hn▸(Nat.min_eq_right q).symm▸?_;exact Nat.le_refl _))
  ·refine wpAny_pure (hR h' acc c (λb o hb e=>?_) (he S _ s1 s3 s4 s5 hS) ⟨P.1,λj hj=>?_⟩)
   ·refine CX (Ks hb) λb1 b2 b3 b4 b5=>?_
    exact he b o b2 b3 b4 b5 (Ai b o hb e)
   ·refine JS (P.2 j hj) λa x y e1 e2 e3 e4 e5=>?_
    refine CX (Ks e5) λb1 b2 b3 b4 b5=>?_
    exact⟨a,x,y,e1,e2,e3,he a _ b2 b3 b4 b5 e4,e5⟩
 |succ k ih=>
  intro i h c acc hk hi Z Ai hS P
  have kj:i<min xs.size ys.size:=by refine(show min xs.size ys.size=n by assumption).symm▸?_;exact a6 (by assumption)
  refine aP (⟨_,Array.getElem?_eq_getElem (Nat.lt_of_lt_of_le kj (Nat.min_le_left ..))⟩:∃v,xs[i]? =some v) λx hx=>?_
  refine aP (⟨_,Array.getElem?_eq_getElem (Nat.lt_of_lt_of_le kj (Nat.min_le_right ..))⟩:∃v,ys[i]? =some v) λy hy=>?_
  have hY:acc.size=i:=by refine Array.length_toList▸?_;exact P.1
  refine codeAny_builtin PySem.F.entry_extend_loop ?_
  refine(Around.under_plainId PySem.F.plain_extend_loop _).symm▸?_
  show wpAny _ A.in1 (pyNext (.ref z)>>=_) _ _ _
  refine wpAny_bind (oK (s:={s with heap:=h}) (S:=S) D (Heap.lt_size hS) Z hx hy λh' Z' ht Gq=>?_)
  dsimp only at ht Gq ⊢
  have Ku:=Gq S _ s1 s3 s4 s5 hS
  have up:∀b o,b≠S->h'.get? b=some o->(h'.update S (Obj.mapSeq (·.push (Value.ref h.objs.size)))).get? b=some o:=λb o hb e=>(Heap.get?_update_other _ _ (Ne.symm hb)).trans e
  have lt:∀{c:Addr} {o:Obj},h.get? c=some o->h.objs.size≠c:=λe=>Nat.ne_of_gt (Heap.lt_size e)
  show wpAny _ A.in1 (updateSeq S (·.push (Value.ref h.objs.size))>>=_) _ _ _
  refine wpAny_bind ?_
  refine wpAny_updateSeq Ku rfl (wpAny_pure ⟨plainId_quiet PySem.F.plain_extend_loop _,ih (i+1) _ _ (acc.push (Value.ref h.objs.size)) (a5 (by assumption)) (by lia) ?_ (λb o hb e=>?_) (Heap.get?_update_self _ Ku rfl) ⟨?_,λj hj=>?_⟩⟩) (by refine hY.symm▸?_;exact Nat.le_trans (Nat.le_trans hi Kr) (by decide)) (by show(acc.push _).size<=sizeLine+1;refine(Array.size_push ..).symm▸hY.symm▸?_;exact Nat.succ_le_succ (Nat.le_trans (Nat.le_trans hi Kr) (by decide)))
  ·obtain⟨z1,z2,z3,z4,z5,z6,TK,TL⟩:=Z'
   refine⟨.inr ?_,up _ _ (Ne.symm s2) z2,z3.at λo e=>up _ o (Ne.symm s4) e,z4.at λo e=>up _ o (Ne.symm s5) e,z5.at λo e=>up _ o (Ne.symm s6) e,z6.at λo e=>up _ o (Ne.symm s7) e,TK,up _ _ (Ne.symm s3) TL⟩
   rcases z1 with⟨q,_⟩|⟨T,f,oT,a1,a2,a3⟩
   ·lia
   ·exact⟨T,f,oT,up _ _ (Ne.symm s1) a1,up _ _ a3.1 a2,a3⟩
  ·refine CX (Ks hb) λb1 b2 b3 b4 b5=>?_
   exact up b o b1 (Gq b o b2 b3 b4 b5 (Ai b o hb e))
  ·simp[hY]
  ·by_cases q:j<i
   ·refine JS (P.2 j q) λa x' y' e1 e2 e3 e4 e5=>?_
    refine CX (Ks e5) λb1 b2 b3 b4 b5=>?_
    exact⟨a,x',y',by rw[Array.toList_push,List.getElem?_append_left (by refine P.1.symm▸?_;exact q)];exact e1,e2,e3,up _ _ b1 (Gq a _ b2 b3 b4 b5 e4),e5⟩
   ·obtain rfl:j=i:=by lia
    refine⟨h.objs.size,x,y,by rw[Array.toList_push,<-P.1,List.getElem?_concat_length],hx,hy,up _ _ (lt hS) ht,?_⟩
    simp only[List.mem_cons,List.not_mem_nil,or_false,not_or]
    refine⟨lt hS,?_,?_,(let⟨_,e,_⟩:=Z.a;lt e),(let⟨_,e,_⟩:=Z.b;lt e)⟩
    ·rcases Z.z with⟨_,e,_⟩|⟨_,_,_,e,_⟩ <;> exact lt e
    ·exact(let⟨_,e⟩:=Z.to;lt e)
theorem tX:typeLookup (.type "zip") "__len__"=pure none:=by refine(typeLookup_type ..).symm▸builtinLookup_eq_fast.symm▸?_;kernel_rfl
theorem qO:typeLookup (.type "zip") "__length_hint__"=pure none:=by refine(typeLookup_type ..).symm▸builtinLookup_eq_fast.symm▸?_;kernel_rfl
theorem Aj{n:Nat}{Q:Value->Shared->Prop}(hn:min xs.size ys.size=n)(Kr:n<=1000)(hh:A.handled=none)(D:ZipApart z TI TO i1 i2 l1 l2)(hz:IsZip s.heap z TI TO .none)(l_:IsPair s.heap TI (.ref i1) (.ref i2))(o5:IsPair s.heap TO .none .none)
  (h1:s.heap.IsListIter i1 l1 0)(h2:s.heap.IsListIter i2 l2 0)(eW:s.heap.IsList l1 xs)(ni:s.heap.IsList l2 ys)
  (hQ:∀h' acc c,(∀b o,b∉[s.heap.objs.size,z,TO,i1,i2]->s.heap.get? b=some o->h'.get? b=some o)->h'.get? s.heap.objs.size=some {cls:=.type "list",dict:=none,data:=.seq acc c,slots:=#[]}->Nt h' [s.heap.objs.size,z,TO,i1,i2] xs ys acc.toList n->Q (.ref s.heap.objs.size) {s with heap:=h'}):
  wpAny (model PW w) A (call (.type "list") [.ref z]) Q E s:=by
 refine callType_codes (Q₁:=λobj iP=>obj= .ref s.heap.objs.size/\iP={s with heap:=s.heap.push {cls:=.type "list",data:=.seq #[]}}) PySem.F.called_list (PySem.F.typeCall_list_1 _) PySem.F.entry_list_init
  (code_list_new _ ⟨rfl,rfl⟩) λobj iP h₁=>?_
 refine i_ h₁ λak iO=>?_
 clear h₁
 obtain rfl:=ak
 obtain rfl:=iO
 have hS:(s.heap.push {cls:=.type "list",data:=.seq #[]}).get? s.heap.objs.size=some {cls:=.type "list",data:=.seq #[]}:=Heap.get?_push_size _ rfl
 have lt:∀{c:Addr} {o:Obj},s.heap.get? c=some o->s.heap.objs.size≠c:=λe=>Nat.ne_of_gt (Heap.lt_size e)
 have k0:∀b o,s.heap.get? b=some o->(s.heap.push {cls:=.type "list",data:=.seq #[]}).get? b=some o:=λb o e=>Heap.get?_push_of_some _ e
 generalize hH:s.heap.push {cls:=.type "list",data:=.seq #[]}=H at hS k0
 generalize TM:s.heap.objs.size=S at hS lt hQ
 refine⟨⟨_,by rw[<-TM] at hS ⊢;exact hS,rfl⟩,PySem.F.args_list_init_2 _ _,?_⟩
 show wpAny _ A.in1.in1 (do let old <-Builtin.List.listItems (.ref S);Builtin.List.listUpdate (.ref S) (λζ=>#[]);letGo old.toList.reverse;Builtin.List.listExtendWith (.ref S) (.ref z) .none) _ _ _
 refine wpAny_bind ?_
 unfold Builtin.List.listItems
 refine wpAny_bind (wpAny_seqItems hS rfl (wpAny_pure ?_))
 show wpAny _ _ (updateSeq S (λζ=>#[])>>=λζ=>letGo (#[]:Array Value).toList.reverse>>=λζ=>Builtin.List.listExtendWith (.ref S) (.ref z) .none) _ _ _
 refine wpAny_bind (wpAny_updateSeq hS rfl ?_)
 have Ak:=Heap.get?_update_self (Obj.mapSeq (λζ=>(#[]:Array Value))) hS rfl
 have k2:∀b o,b≠S->s.heap.get? b=some o->(H.update S (Obj.mapSeq (λζ=>(#[]:Array Value)))).get? b=some o:=λb o hb e=>(Heap.get?_update_other _ _ (Ne.symm hb)).trans (k0 b o e)
 refine wpAny_bind (wpAny_letGo ?_)
 generalize H.update S (Obj.mapSeq (λζ=>(#[]:Array Value)))=H2 at Ak k2
 have Qi:=k2 _ _ (Ne.symm (lt hz)) hz
 have Nv:Shared.TypeIs ⟨H2,s.gens,s.drawn,s.toks,s.os⟩ (.ref z) "zip":=⟨_,Qi,rfl⟩
 have key:∀(h:Heap) (c₁:Nat),(∀b o,b≠S->H2.get? b=some o->h.get? b=some o)->h.get? S=some {cls:=.type "list",data:=.seq #[] c₁}->codeAny (model PW w) A.in1 (.builtin "list.extend.loop" ⟨[.ref S,.ref z,.none],[]⟩) (wants (λr Nw=>r=Value.none/\Q (Value.ref S) Nw) E) {s with heap:=h}:=by
  intro h c₁ hk Jg
  have k3:∀b o,b≠S->s.heap.get? b=some o->h.get? b=some o:=λb o hb e=>hk b o hb (k2 b o hb e)
  refine aU h1 λoa ea pa=>?_
  clear h1
  refine aU h2 λob eb pb=>?_
  clear h2
  refine aU eW λoc ec pc=>?_
  clear eW
  refine aU ni λod ed pd=>?_
  clear ni
  refine Ah (s:=s) (h₁:=s.heap) hn Kr (A:=A.in1) hh D ?_ (λh' acc c TN Ku P=>⟨rfl,hQ h' acc c TN Ku P⟩) n 0 h c₁ #[] rfl (Nat.zero_le _)
   ⟨.inl ⟨rfl,k3 _ _ (Ne.symm (lt hz)) hz,_,_,k3 _ _ (Ne.symm (lt o5)) o5⟩,k3 _ _ (Ne.symm (lt l_)) l_,⟨oa,k3 _ _ (Ne.symm (lt ea)) ea,pa⟩,⟨ob,k3 _ _ (Ne.symm (lt eb)) eb,pb⟩,⟨oc,k3 _ _ (Ne.symm (lt ec)) ec,pc⟩,⟨od,k3 _ _ (Ne.symm (lt ed)) ed,pd⟩,_,k3 _ _ (Ne.symm (lt o5)) o5⟩
   (λb o hb e=>k3 b o (λq=>hb (q▸List.mem_cons_self)) e) Jg ⟨rfl,λj hj=>absurd hj (Nat.not_lt_zero _)⟩
  simp only[List.mem_cons,List.not_mem_nil,or_false,not_or]
  exact⟨lt hz,lt l_,lt o5,lt ea,lt eb,lt ec,lt ed⟩
 unfold Builtin.List.listExtendWith
 refine wpAny_bind (wpAny_typeOf (T:="zip") Nv ?_)
 have e1:Builtin.List.listSameRef (.ref S) (.ref z)=false:=by simp[Builtin.List.listSameRef,lt hz]
 have e2:(Value.type "zip"==Value.type "list")=false:=by decide
 have e3:(Value.type "zip"==Value.type "tuple")=false:=by decide
 simp only[e1,e2,e3,Bool.or_false,Bool.false_eq_true,if_false]
 refine wpAny_bind (wpAny_pyIter_zip (s:=⟨H2,s.gens,s.drawn,s.toks,s.os⟩) Qi ?_)
 refine wpAny_bind (wpAny_holding ?_)
 unfold Builtin.List.listLengthHint
 refine wpAny_bind (wpAny_specialOf Nv tX ?_)
 show wpAny _ _ (specialOf (Value.ref z) (Str.ofString "__length_hint__")>>=_) _ _ _
 refine wpAny_bind (wpAny_specialOf Nv qO ?_)
 refine wpAny_pure ?_
 show wpAny _ _ (rule "list.extend.makes-room">>=λζ=>Builtin.List.listTouch (.ref S)>>=λζ=>again (.builtin "list.extend.loop" ⟨[.ref S,.ref z,.none],[]⟩)) _ _ _
 refine wpAny_bind (wpAny_rule ?_)
 refine wpAny_bind ?_
 show wpAny _ _ (updateSeq S (·.push .none)>>=λζ=>updateSeq S (·.pop)) _ _ _
 refine wpAny_bind (wpAny_updateSeq Ak rfl ?_)
 have DL:=Heap.get?_update_self (Obj.mapSeq (·.push Value.none)) Ak rfl
 refine wpAny_updateSeq (hz:=by seq_fits) DL rfl ?_
 have Jh:=Heap.get?_update_self (Obj.mapSeq (·.pop)) DL rfl
 refine wpAny_pure ⟨plainId_quiet PySem.F.plain_extend_loop _,key _ _ (λb o hb e=>?_) Jh⟩
 exact(Heap.get?_update_other _ _ (Ne.symm hb)).trans ((Heap.get?_update_other _ _ (Ne.symm hb)).trans e)
end
theorem du.of{g:Heap}{vs:List Value}{qs:List (Int×Int)}(e:vs.length=qs.length)(k:∀j<vs.length,∃v q,vs[j]? =some v/\qs[j]? =some q/\aW g v (.inr q)):du g vs qs:=by
 induction vs generalizing qs with
 |nil=>cases qs with
  |nil=>exact .nil
  |cons _ _=>cases e
 |cons v vs ih=>cases qs with
  |nil=>cases e
  |cons q qs=>
   refine fv (k 0 (Nat.zero_lt_succ _)) λv' q' e1 e2 p=>?_
   cases e1;cases e2
   exact .cons p (ih (Nat.succ.inj e) λj hj=>k (j+1) (Nat.succ_lt_succ hj))
theorem ints_get{vs:List Value}{is:List Int}(x:IntsAre vs is):∀{j:Nat} {v:Value},vs[j]? =some v->∃n t,v= .int n t/\is[j]? =some n:=by
 induction x with
 |nil=>intro j v e;simp at e
 |cons n t _ ih=>
  intro j v e
  cases j with
  |zero=>cases e;exact⟨n,t,rfl,rfl⟩
  |succ j=>simpa using ih (by simpa using e)
section
variable{Γ:Cx}{A:Around}{E:Value->Heap->Prop}{m m':Str->Option Value}{l l' cs:List Cell}{g g' h h':Heap}{r:Nat}{ns gs:List Str}{cc:List (Str×Addr)}{e e':Expr}{s t:Sp}{pos:Pos}{ρ:List (Addr×Obj)}{L:Addr}
theorem wH{z TI TO i1 i2 l1 l2:Addr}{xs ys:List Value}{is js:List Int}{Q:Value->Heap->Prop}(hh:A.handled=none)(nt:eH ρ)(hT:TO∉adr ρ)(Z:Zp g TI i1 i2 l1 l2 xs ys)(F:Fx ((TO,bT .none .none)::ρ) g L m (Zl z TI TO i1 i2 l1 l2 0 l) h)(hx:IntsAre xs is)(hy:IntsAre ys js)(hz:xs.length<=1000)
  (k:∀D acc g' h',Sub g g'->Ls g' D acc->du g' acc (is.zip js)->Fx ρ g' L m l h'->Q (.ref D) h'):Wp A (call (.type "list") [.ref z]) Q E h:=by
 refine .of ?_;intro gg d kk o Q' E' hQ hE
 have mT:TO∈adr ((TO,bT .none .none)::ρ):=List.mem_cons_self
 have D:=F.apart mT Z
 obtain⟨oz,ez,pz⟩:=F.get (a:=z) (p:=Zo TI TO) List.mem_cons_self
 obtain rfl:oz=_:=pz
 have o5:h.get? TO=some (bT .none .none):=by
  obtain⟨ζ,sl,e⟩:=F.fr (TO,bT .none .none) List.mem_cons_self
  replace e:=(if_pos (eG [.none,.none] 0))▸e;exact e
 obtain⟨oA,eA,pA⟩:=Z.a.up F.keep
 obtain⟨oB,eB,pB⟩:=Z.b.up F.keep
 have TP:=cp hx
 have ln2:=cp hy
 refine Aj (s:=⟨h,gg,d,kk,o⟩) (n:=min xs.length ys.length) (by simp) (Nat.le_trans (Nat.min_le_left ..) hz) hh D ez (F.keep _ _ Z.ti) o5 (F.get (a:=i1) (p:=Lit _ 0) (List.mem_cons_of_mem _ List.mem_cons_self)).ex (F.get (a:=i2) (p:=Lit _ 0) (List.mem_cons_of_mem _ (List.mem_cons_of_mem _ List.mem_cons_self))).ex (pA.isList eA) (pB.isList eB) λh' acc c hk hS P=>hQ _ _ _ ?_
 dsimp only at hk hS P
 have mz:z∈adr (Zl z TI TO i1 i2 l1 l2 0 l):=List.mem_cons_self
 have m1:i1∈adr (Zl z TI TO i1 i2 l1 l2 0 l):=List.mem_cons_of_mem _ List.mem_cons_self
 have m2:i2∈adr (Zl z TI TO i1 i2 l1 l2 0 l):=List.mem_cons_of_mem _ (List.mem_cons_of_mem _ List.mem_cons_self)
 have ml:∀{b:Addr},b∈adr l->b∈adr (Zl z TI TO i1 i2 l1 l2 0 l):=λh=>List.mem_cons_of_mem _ (List.mem_cons_of_mem _ (List.mem_cons_of_mem _ h))
 have n1:=List.nodup_cons.mp F.own.nd
 have n2:=List.nodup_cons.mp n1.2
 have n3:=List.nodup_cons.mp n2.2
 have kp:∀b o,h.get? b=some o->b≠z->b≠TO->b≠i1->b≠i2->h'.get? b=some o:=λb o e b1 b2 b3 b4=>hk b o (by
  simp only[List.mem_cons,List.not_mem_nil,or_false,not_or]
  exact⟨Nat.ne_of_lt (Heap.lt_size e),b1,b2,b3,b4⟩) e
 have kl:∀b o,b∈adr l->h.get? b=some o->h'.get? b=some o:=λb o hb e=>kp b o e (λq=>n1.1 (q▸List.mem_cons_of_mem _ (List.mem_cons_of_mem _ hb))) (λq=>F.cS _ (ml hb) (q▸mT)) (λq=>n2.1 (q▸List.mem_cons_of_mem _ hb)) (λq=>n3.1 (q▸hb))
 have ng:∀{b c:Addr} {o:Obj},g.get? b=some o->g.get? c=none->b≠c:=λe n q=>by subst q;replace n:=e▸n;cases n
 have mr:∀{b:Addr},b∈adr ρ->b∈adr ((TO,bT .none .none)::ρ):=λh=>List.mem_cons_of_mem _ h
 have fS:∀{b:Addr} {o:Obj},h.get? b=some o->h.objs.size≠b:=λe=>Nat.ne_of_gt (Heap.lt_size e)
 obtain⟨g2,S2,F2⟩:=Fx.grow (L:=L) (m:=m) (ρ:=ρ) (l:=l) (h:=h') g (f6 F.ns λo e=>kp _ _ e (λq=>F.cz.1 (q▸mz)) (λq=>F.cz.2 (q▸mT)) (λq=>F.cz.1 (q▸m1)) (λq=>F.cz.1 (q▸m2)))
  ⟨λp hp=>(let⟨o,e,po⟩:=F.own.at' p (List.mem_cons_of_mem _ (List.mem_cons_of_mem _ (List.mem_cons_of_mem _ hp)));⟨o,kl _ _ (ax hp) e,po⟩),n3.2,λp hp=>F.own.nt p (List.mem_cons_of_mem _ (List.mem_cons_of_mem _ (List.mem_cons_of_mem _ hp)))⟩
  (λp hp=>(let⟨_,sl,e⟩:=F.fr p (List.mem_cons_of_mem _ hp);⟨trivial,sl,kp _ _ e (λq=>F.cS _ mz (q▸mr (ax hp))) (λq=>hT (q▸ax hp)) (λq=>F.cS _ m1 (q▸mr (ax hp))) (λq=>F.cS _ m2 (q▸mr (ax hp)))⟩))
  (λb o e=>kp b o (F.keep b o e) (ng e (F.bo _ mz)) (ng e (F.bH _ mT)) (ng e (F.bo _ m1)) (ng e (F.bo _ m2))) F.dz (λb hb=>F.bo b (ml hb)) (λb hb=>F.bH b (mr hb)) ⟨λq=>F.cz.1 (ml q),λq=>F.cz.2 (mr q)⟩ λb hb hr=>F.cS b (ml hb) (mr hr)
 have nL:=Nat.ne_of_gt F.ns.lt
 have nl:h.objs.size∉adr l:=λhm=>F.own.fresh (ml hm)
 have nr:h.objs.size∉adr ρ:=λhm=>F.fr.fresh (mr hm)
 refine k h.objs.size acc.toList g2 h' S2 ⟨_,F2.max _ _ hS nL nl nr,rfl,rfl,c,by simp⟩ (du.of (by rw[P.1,List.length_zip,TP,ln2]) λj hj=>?_) F2
 refine JS (P.2 j (by replace hj:=P.1▸hj;exact hj)) λa x y e1 e2 e3 e4 e5=>?_
 refine dm (ints_get hx (by simpa using e2)) λn t ak f1=>?_
 obtain rfl:=ak
 refine dm (ints_get hy (by simpa using e3)) λn' t' ak f2=>?_
 obtain rfl:=ak
 refine⟨_,(n,n'),e1,by rw[List.getElem?_zip_eq_some];exact⟨f1,f2⟩,aD.pv ⟨a,t,t',rfl,0,?_⟩⟩
 have e4:h'.get? a=some (o7 [.int n t,.int n' t'] 0):=e4
 exact F2.max _ _ e4 (λq=>by
  have:=aS F2.ns (q▸e4)
  cases this) (F2.own.cI e4 rfl) (F2.fr.cI nt e4 rfl)
theorem Px.pairs{p p2 oM:Pos}{xs ys:List Value}{is js:List Int}(C:Co Γ r ns gs cc)(G:Gd g)(hx:Gs gs (U "list"))(Kk:Gs gs (U "zip"))(a:Px Γ m l g e (.l xs))(b:Px Γ m l g e' (.l ys))(hi:IntsAre xs is)(hj:IntsAre ys js)(hz:xs.length<=1000)
  (he:eval (.Call (.Name (U "list") p) [.Call (.Name (U "zip") p2) [e,e'] [] oM] [] pos) Γ.env=(do callWith pos (<-eval (.Name (U "list") p) Γ.env) [] (backTo pos (starEach [.Call (.Name (U "zip") p2) [e,e'] [] oM] Γ.env)) (backToKw pos (keywordEach [] Γ.env))):=by rfl)
  (hs:starEach [.Call (.Name (U "zip") p2) [e,e'] [] oM] Γ.env=(false,eval (.Call (.Name (U "zip") p2) [e,e'] [] oM) Γ.env)::starEach [] Γ.env:=by rfl)
  (Dj:eval (.Call (.Name (U "zip") p2) [e,e'] [] oM) Γ.env=(do callWith oM (<-eval (.Name (U "zip") p2) Γ.env) [] (backTo oM (starEach [e,e'] Γ.env)) (backToKw oM (keywordEach [] Γ.env))):=by rfl)
  (h1:starEach [e,e'] Γ.env=(false,eval e Γ.env)::starEach [e'] Γ.env:=by rfl)(h2:starEach [e'] Γ.env=(false,eval e' Γ.env)::starEach [] Γ.env:=by rfl):Px Γ m l g (.Call (.Name (U "list") p) [.Call (.Name (U "zip") p2) [e,e'] [] oM] [] pos) (.f (is.zip js)):=
 ⟨λE Q g1 h S F q=>bw ((Px.blt C G hx (.tl (.tl (.tl (.tl (.tl .hd)))))).go _ _ g1 h S F λv g2 h3 S2 F2 q2=>by
  obtain rfl:v= .type "list":=q2
  refine dU (az (Ae C F2 (G.up (S.trans S2)) Kk (a.lf (S.trans S2)) (b.lf (S.trans S2)) (λz TI TO i1 i2 l1 l2 g3 h4 S3 nT Z F3=>?_) Dj h1 h2) hs) hs (by rfl)
  exact aC (wH C.rm.hd C.nt nT Z F3 hi hj hz λD acc g4 h5 S4 hl rq F4=>q _ g4 h5 (S2.trans (S3.trans S4)) F4 ⟨D,acc,rfl,hl,rq⟩)) he⟩
theorem nk{α:Type}{p:α->Bool}{qs:List α}{i:Nat}{q:α}(e:qs[i]? =some q):(qs.take (i+1)).filter p=(qs.take i).filter p++(if p q then[q] else[]):=by
 refine List.take_add_one.symm▸e.symm▸(List.filter_append ..).symm▸?_
 cases h:p q <;> simp[h]
theorem Px.DM{x:Str}{px TQ Cn:Pos}{test iter:Expr}{scope:Scope}{cl:List (Str×Addr)}{a:Addr}{xs:List Value}{qs:List (Int×Int)}{gs':List Str}(pr:Int×Int->Bool)(C:Co Γ r ns gs cc)(y0:Px Γ m l g iter (.v (.ref a)))(hl:Ls g a xs)(rq:du g xs qs)(E6:∀p∈cl,p∈cc)
  (dN:closureFor scope Γ.env=pure cl)(km:qt scope x gs' (cl.map (·.1))=true)(hz:xs.length<=100)
  (turn:∀(q:Int×Int) v qA mc lc g1,q∈qs->Co qA r [x] gs' cl->mc x=some v->aW g1 v (.inr q)->(∀c∈l,c∈lc)->Sub g g1->Pb qA mc lc g1 test (pr q))
  (hs:∀x,foldedSetIterable iter Γ.env x=pure x:=by intro _;rfl):Px Γ m l g (.ListComp (.Name x TQ) [⟨.Name x px,iter,[test],0⟩] scope Cn) (.f (qs.filter pr)):=by
 refine⟨λE Q g1 h S F k=>?_⟩
 refine ky (n:=xs.length) (P:=λi v=>xs[i]? =some v) Γ.ρ Γ.L C.rm.hd C.ev C.ec E6 dN km (λi ys ga la=>la=l/\Sub g1 ga/\ys.length<=i/\i<=100/\du ga ys ((qs.take i).filter pr)) (λi ys ga la q=>by lia) ?_ ?_ hs
 ·refine y0.go _ _ g1 h S F λv g2 h2 S2 F2 p=>?_
  obtain rfl:v= .ref a:=p
  refine⟨g2,m,l,F2,Src.list (hl.up (S.trans S2)),λg' S'=>⟨rfl,S2.trans S',Nat.le_refl _,Nat.zero_le _,.nil⟩,λD ys aV bY aQ bj q T S3 F3=>?_⟩
  refine CX q λak S4 uL IH rs=>?_
  clear q
  obtain rfl:=ak
  replace rs:=List.take_length▸rq.len▸rs
  obtain⟨g5,S5,hD,F5⟩:=Fx.freeze F3
  exact k _ g5 bj (S2.trans (S3.trans S5)) F5 ⟨D,ys,rfl,hD,rs.up (T.trans S5.aj)⟩
 ·rintro i v ys ga la h2 it p D C' cB hi hv ⟨rfl,S1,uL,IH,rs⟩ O Cc F1
  refine aU (rq.at i v hv) λq eq pq=>?_
  have pq:=pq.up (S.trans S1).aj
  have C2:Co ⟨Γ.A,cB,Γ.ρ,C'⟩ r [x] gs' cl:=⟨C.rm,O,Cc,C.nt⟩
  have hm:mv [x] [some v] x=some v:=by simp[mv]
  have tt:=turn q v ⟨Γ.A,cB,Γ.ρ,C'⟩ (mv [x] [some v]) ((it,p)::(D,Lo ys)::la) ga (List.mem_of_getElem? eq) C2 hm pq (λc hc=>List.mem_cons_of_mem _ (List.mem_cons_of_mem _ hc)) (S.trans S1)
  refine lA (tt.go _ _ ga h2 (Sub.refl _) F1 λgb hb Sb Fb=>?_)
  cases hp:pr q with
  |false=>exact⟨gb,la,Fb,Sb,rfl,S1.trans Sb,by lia,by lia,by refine(nk eq).symm▸hp.symm▸?_;simpa using rs.up Sb.aj⟩
  |true=>
   refine(Px.local C2 .hd hm).go _ _ gb hb (Sub.refl _) Fb λu gc hc Sc Fc q2=>?_
   obtain rfl:u=v:=q2
   exact⟨gc,la,Fc,Sb.trans Sc,rfl,S1.trans (Sb.trans Sc),by simp;lia,by lia,by refine(nk eq).symm▸hp.symm▸?_;exact(rs.up (Sb.trans Sc).aj).snoc (pq.up (Sb.trans Sc).aj)⟩
theorem Lay.Ji{xs:List Value}{qs:List (Int×Int)}(x:du h xs qs):Lay h xs:=by
 unfold Lay
 induction x with
 |nil=>exact⟨[],.nil,rfl,rfl⟩
 |@cons v q vs qs p _ ih=>
  refine fF ih λds a b ζ=>?_
  clear ih
  exact⟨cf (.inr q)::ds,.cons (as:=[]) (bs:=[]) (gL (x:=.inr q) p) a,by
   show(PyData.canLay0 (cf (.inr q))&&PyData.canLayAll0 ds)=true
   refine(n8 ..).symm▸b.symm▸?_;rfl,rfl⟩
theorem Kc.Nz{qs:List (Int×Int)}(hA:Rm A 0):Kc A .Eq (.f qs) (.l []) qs.isEmpty g:=⟨λE Q x y h S p q k=>by
 refine fv p λa xs ak hl rq=>?_
 clear p
 obtain rfl:=ak
 have e:xs.isEmpty=qs.isEmpty:=by cases rq <;> rfl
 exact(Kc.zR (g:=h) hA λh2 S2=>Lay.Ji (rq.up S2.aj)).go E Q _ y h (Sub.refl _) ⟨a,rfl,hl⟩ q (by refine e.symm▸?_;exact k)⟩
theorem Kc.Jj{qs:List (Int×Int)}(hA:Rm A 0):Kc A .NotEq (.f qs) (.l []) (!qs.isEmpty) g:=⟨λE Q x y h S p q k=>by
 refine fv p λa xs ak hl rq=>?_
 clear p
 obtain rfl:=ak
 have e:xs.isEmpty=qs.isEmpty:=by cases rq <;> rfl
 exact(Kc.IV (g:=h) hA λh2 S2=>Lay.Ji (rq.up S2.aj)).go E Q _ y h (Sub.refl _) ⟨a,rfl,hl⟩ q (by refine e.symm▸?_;exact k)⟩
end
section
variable{W:WA}{A:Around}{b:BS}{g h:Heap}{R:Result->Heap->Prop}{ρ:List (Addr×Obj)}{sn:Addr}
theorem Cq(G:Gd g):CodeHd g 811 809:=⟨nB,_,_,_,_,_,_,_,_,G.k 130 rfl,rfl,rfl,rfl,rfl,rfl,rfl,rfl,rfl,by decide⟩
theorem Wf.sf{l:List Cell}(x:Wf W b l g):Sf W.k W.sn g:=⟨x.qw,x.sn⟩
theorem Al{B:List Row}{ts:List Nat}:(∀t∈ts,∃q,numAt B t=some q/\q.1≠0)↔(ay B ts).length=ts.length/\(ay B ts).filter (λq=>q.1==0)=[]:=by
 induction ts with
 |nil=>simp[ay]
 |cons t ts ih=>
  unfold ay at ih ⊢
  refine List.filterMap_cons.symm▸?_
  have hl:=List.length_filterMap_le (numAt B) ts
  constructor
  ·intro k
   refine aU (k t List.mem_cons_self) λq e hq=>?_
   refine i_ (ih.mp λu hu=>k u (List.mem_cons_of_mem _ hu)) λa c=>?_
   refine e.symm▸?_
   exact⟨by simp[a],by simp only[List.filter_cons];rw[if_neg (by simpa using hq)];exact c⟩
  ·rintro⟨a,c⟩
   cases e:numAt B t with
   |none=>rw[e] at a;simp at a;lia
   |some q=>
    rw[e] at a c
    simp only[List.filter_cons] at c
    split at c
    ·cases c
    ·rename_i hq
     intro u hu
     rcases List.mem_cons.mp hu with rfl|hu
     ·exact⟨q,e,by simpa using hq⟩
     ·exact ih.mpr ⟨by simpa using a,c⟩ u hu
theorem oN{n:Nat}{q:Int×Int}{T B:Int}(l:dD n 2 q.1 q.2)(sm:bx q.1 q.2 T B)(hB:B≠0):q=(cm T B,bU T B):=by
 refine i_ (ir l.pos (dK T hB) l.Dr (EA T hB) (cA hB sm (jq (c7 T hB)))) λe1 e2=>?_
 exact Prod.ext e1 e2
theorem jD{sa pa p0 p1:Addr}{vs:List Value}{i0:Nat}{ts:List Nat}{r0:Row}{iF iG:Pt}{nn dd:Nat}{ps:Array Value}{lr:List Cell}(x:Gr ρ g h (b.l W.k++(809,Tb ps)::lr))(nt:eH ρ)(gw:Ao A ρ)(X:Wf W b (b.l W.k++(809,Tb ps)::lr) g)(Z:qY pa p0 p1 iF iG g)(hT:aM g (lq "_law_quotient_right") ps)(hA:Rm A 21)(hz:b.B.length<=4700)
  (hl:Ls g sa vs)(hi:IntsAre vs (bA (i0::ts)))(h3:ts.length<=3)(zW:b.B[i0]? =some r0)(ht:∀i∈i0::ts,∃s,(s=1\/s=2)/\aF b.B nn dd s i)(h1:1<=nn)(hn:nn<=500)(hd:dd<=5)
  (K:∀(b':BS) aI g2 h',Step ρ (b.l W.k++(809,Tb ps)::lr) h (b'.l W.k++(809,Tb aI)::lr) h'->Gr ρ g2 h' (b'.l W.k++(809,Tb aI)::lr)->Sub g g2->Wf W b' (b'.l W.k++(809,Tb aI)::lr) g2->aM g2 (lq "_law_quotient_right") aI->Ext b.B b'.B->b'.B.length<=b.B.length+10->R (.ok (.ret (.bool true))) h'):
  Cd A (.call (.ref 812) ⟨[.ref W.wd,.ref sa,.ref pa],[]⟩) R h:=by
 have G:=X.gd
 refine dG [(U "world",.ref W.wd),(U "points",.ref pa)] [U "bank",U "told",U "figures",U "first",U "one",U "is_let",U "total",U "side",U "top",U "bottom",U "point",U "inner"] (λn=>[(U "given",n+1),(U "some",n)]) (λn=>[(n+1,none),(n,some (.ref sa))]) (binds:=[(U "world",.ref W.wd),(U "some",.ref sa),(U "points",.ref pa)]) (ns:=[U "world",U "points",U "bank",U "told",U "figures",U "first",U "one",U "is_let",U "total",U "side",U "top",U "bottom",U "point",U "inner"]) (gs:=[U "NumberTerms",U "_law_tried",U "_law_figures",U "len",U "REAL",U "ratio",U "_law_worth",U "_law_same"]) (r:=20) x nt G hA (gh G) (gi G) rfl rfl rfl rfl (λn=>by k_extra "R") (λn=>by k_extra "R") (by kernel_rfl) (λn=>rfl) λΓ m g1 wX eX hE bS C P S F=>?_
 have hB:Ab Γ.A Γ.env Γ.L Γ.ρ:=by refine eX.symm▸?_;exact Ab.H7 gw hE bS C.ev
 have X1:=X.lf S
 replace F:Fv Γ g1 m ((Γ.L+1+1,Ce none)::(Γ.L+1,Ce (some (.ref sa)))::(b.l W.k++(809,Tb ps)::lr)) wX:=F
 refine ab λQ0 me=>?_
 refine lU C F (by k_extra "v") (by k_extra "v") (λv1 v2 g2 h2 S2 F2 q1 q2=>?_) (by k_extra "R") (by refine hE.symm▸?_;k_extra "R") (by k_extra "R") (by k_extra "R")
 obtain rfl:v1= .ref W.k.self:=q1
 obtain⟨rb,rfl,N⟩:=q2
 refine aA C F2 (by k_extra "a") λm3 V5 F3 M3=>?_
 refine dC C F3 (by k_extra "a") (by k_extra "c") λh4 F4=>?_
 obtain⟨ga,Sa,kg,Fa⟩:=F4.fX
 obtain⟨g5,Sb,ks,F5⟩:=Fa.fX
 have kg:Ck g5 (Γ.L+1+1) (.ref rb):=(show Ck ga (Γ.L+1+1) (.ref rb) from kg).up Sb
 have ks:Ck g5 (Γ.L+1) (.ref sa):=ks
 have S5:=Sa.trans Sb
 have i4:=S2.trans S5
 replace N:=N.up S5
 clear F F2 F3 F4 Fa
 have X5:=X1.lf i4
 refine me.go ?_
 refine ab λQ1 gE=>?_
 refine aZ ?_ (by k_extra "R")
 have fin2:∀(b2:BS) kB gF mF hF,Sub g gF->Fv Γ gF mF (b2.l W.k++(809,Tb kB)::lr) hF->aM gF (lq "_law_quotient_right") kB->Wf W b2 (b2.l W.k++(809,Tb kB)::lr) gF->Ext b.B b2.B->b2.B.length<=b.B.length+10->R (.ok (.ret (.bool true))) hF:=λb2 kB gF mF hF SF FF TF XF eF lF=>by
  obtain⟨IX,zU,y⟩:=Gr.out (L:=Γ.L) (m:=mF) x (eX▸(show Fx Γ.ρ gF Γ.L mF (b2.l W.k++(809,Tb kB)::lr) hF from FF)) SF
  exact K b2 kB IX hF (x.d5 eX FF SF) y (SF.trans zU) (XF.lf zU) (TF.up zU) eF lF
 have fin:∀(z:Nat) (t:Tok) (b':BS) aI g6 h6,Sub g5 g6->aM g6 (lq "_law_quotient_right") aI->Fv Γ g6 m3 (b'.l W.k++(809,Tb aI)::lr) h6->Bk W.k b'.B b'.ops b'.args b'.sorts b'.ae b'.xs h6->(Let b.B r0 ts/\qH b.B i0 r0 nn dd (ay b.B ts) b'.B z\/¬Let b.B r0 ts/\z=0)->Ext b.B b'.B->b'.B.length<=b.B.length+10->Wp Γ.A (storeName Γ.env (U "told") (.int (z:Int) t)) (λζ=>Q1 .next) (Lv Γ.A Γ.env R) h6:=λz t b' aI g6 h6 S6 T6 F6 m_ pr ex ln=>by
  have X6:=X5.next S6 C.nt F6 m_ ex (by k_extra "z")
  refine nE (by cases hi with|cons _ t y=>exact⟨t,_,rfl⟩:∃t0 us,vs= .int (i0:Int) t0::us) λt0 us ak=>?_
  obtain rfl:=ak
  have qC:IntsAre us (bA ts):=by cases hi with|cons _ _ y=>exact y
  have GD:=bG qC
  have AW:Ls g6 sa (.int (i0:Int) t0::us):=((hl.up S).up i4).up S6
  have Am:∀i∈ts,∃r,b.B[i]? =some r/\ju nn r:=λi hi=>by
   refine aU (ht i (List.mem_cons_of_mem _ hi)) λs ζ q=>?_
   refine fF q.row λr e ζ hn=>?_
   exact⟨r,e,hn⟩
  have DB:ay b'.B ts=ay b.B ts:=iX ex λi hi=>let⟨r,e,_⟩:=Am i hi;⟨r,e⟩
  have DD:=ex.get zW
  have V6:=kg.up S6
  have Jk:=ks.up S6
  have P3:Ps m3 [(U "world",.ref W.wd),(U "points",.ref pa)]:=P.st M3 (by kernel_rfl)
  refine aA C F6 (by k_extra "a") λm7 h7 F7 M7=>?_
  refine gE.go ?_
  refine ab λQ2 iZ=>?_
  refine lV C F7 (Px.fn (s:=.f (ay b'.B ts)) C X6.gd (by k_extra "a") (by k_extra "a") (by k_extra "R") (by k_extra "R") (Pa.cons (by k_extra "v") (Pa.cons (Px.from (xs:=.int (i0:Int) t0::us) (i:=1) (by k_extra "v") (Px.lu rfl) (by simp;k_extra "z")) Pa.nil (by k_extra "R")) (by k_extra "R")) (tN X6 (by k_extra "r") qC (λi hi=>let⟨r,e,hn⟩:=Am i hi;⟨r,ex.get e,hn⟩) (by k_extra "z")) (by k_extra "R") (by k_extra "R"))
   (Px.item (v:=.int (i0:Int) t0) (by k_extra "v") AW (by k_extra "v") (by k_extra "R") (by decide) (by decide) (by intro _;k_extra "R")) (λv1 v2 g8 h8 S8 F8 q1 q2=>?_) (by k_extra "R") (by refine hE.symm▸?_;k_extra "R") (by k_extra "R") (by k_extra "R")
  refine fv q1 λfa TR ak NA NB=>?_
  clear q1
  obtain rfl:=ak
  obtain rfl:v2= .int (i0:Int) t0:=q2
  refine aA C F8 (by k_extra "a") λm9 h9 F9 M9=>?_
  refine aA C F9 (by k_extra "a") λoF oE fC wu=>?_
  refine iZ.go ?_
  refine ab λQ3 lZ=>?_
  have X8:=X6.lf S8
  have AS:Ps oF [(U "world",.ref W.wd),(U "points",.ref pa),(U "bank",.ref W.k.self),(U "told",.int (z:Int) t),(U "figures",.ref fa),(U "first",.int (i0:Int) t0)]:=.cons (by k_extra "w") (.cons (by k_extra "w") (.cons (by k_extra "w") (.cons (by k_extra "w") (.cons (by k_extra "w") (.cons (by k_extra "w") (.nil _))))))
  have nY:=NB.len
  have TS:(Value.int (i0:Int) t0::us).length<=4:=by simp;k_extra "z"
  have Kd:(ay b'.B ts).length<=3:=Nat.le_trans (gA _ _) h3
  clear F7 F8 F9 M7 M9 wu
  refine aH C fC (by k_extra "a") (Px.and (e':=_) (Px.cmp (Px.len C X8.gd (by k_extra "a") (by k_extra "v") NA (by k_extra "z") (by k_extra "R") (by k_extra "R")) (Px.sub (Px.len C X8.gd (by k_extra "a") (Px.cell C (by k_extra "a") (Jk.up S8)) (AW.up S8) (by simp;k_extra "z") (by k_extra "R") (by k_extra "R")) Px.int) (Kc.int (by k_extra "R")) (by k_extra "R"))
   λζ=>Px.one (Px.cmp (Px.DM (λq=>bM .Eq q.1 0) C (gs':=[]) (by k_extra "v") NA NB (cl:=[]) (by simp) (by refine hE.symm▸?_;k_extra "R") (by kernel_rfl) (by k_extra "z") λq v qA mc lc gc hq Cc Mc pv hM Sc=>Pb.cmp (Px.part (Px.Bv (Px.local Cc .hd Mc) (show aW gc v (.inr (q.1,q.2)) from pv)) Px.int (.inl ⟨rfl,rfl⟩) (by intro _ _;k_extra "R")) Px.int (Kc.int (by k_extra "R")) (by k_extra "R")) (Px.B5 (by k_extra "R")) (Kc.Nz (C.rm.less (by decide))) (by k_extra "R")))
   (λv11 AU iU nh iE iA Qj NC=>?_) (by k_extra "R")
  refine lZ.go ?_
  refine ab λQ4 l7=>?_
  have i5:=X8.lf iE
  obtain⟨lb,ND⟩:∃lb,v11= .bool lb/\(lb=true↔∀t∈ts,∃q,numAt b.B t=some q/\q.1≠0):=⟨_,Qj,by
   rw[Al]
   refine nY.symm▸DB.symm▸?_
   simp only[bM,Bool.and_eq_true,beq_iff_eq,List.isEmpty_iff,List.length_cons,GD]
   exact and_congr_left' ⟨λh=>by lia,λh=>by lia⟩⟩
  obtain⟨rfl,ND⟩:=ND
  refine aP (⟨_,rfl⟩:∃cb,cb=(bM .Gt ((Value.int (i0:Int) t0::us).length:Nat) 1&&((r0.1 !=U "num")&&(bM .NotEq r0.2.2.1 2&&true)))) λcb Qk=>?_
  have j4:cb=false↔(ts=[]\/r0.1=U "num"\/r0.2.2.1=2):=by
   have e1:(ts=[])=(us.length=0):=by rw[GD,List.length_eq_zero_iff]
   refine Qk.symm▸e1.symm▸?_
   by_cases h1:us.length=0 <;> by_cases h2:r0.1=U "num" <;> by_cases h3:r0.2.2.1=2 <;> simp[bM,h1,h2,h3]
   all_goals lia
  have DC:Ps AU [(U "world",.ref W.wd),(U "points",.ref pa),(U "bank",.ref W.k.self),(U "told",.int (z:Int) t),(U "figures",.ref fa),(U "first",.int (i0:Int) t0)]:=AS.st NC (by kernel_rfl)
  have NF:AU (U "is_let")=some (.bool lb):=NC.hd
  clear Qj NC AS fC
  have main:∀uW jP wF,Sub iU jP->Fv Γ jP uW (b'.l W.k++(809,Tb aI)::lr) wF->Ps uW [(U "world",.ref W.wd),(U "points",.ref pa),(U "bank",.ref W.k.self),(U "told",.int (z:Int) t),(U "figures",.ref fa),(U "first",.int (i0:Int) t0)]->uW (U "is_let")=some (.bool (lb&&!cb))->Q4 .next wF:=λuW jP wF dh dY DE V7=>l7.go (by
   refine ab λQ5 q_=>?_
   have l8:=i5.lf dh
   have Jl:True->Sub g jP:=λζ=>by k_extra "q"
   have Ql:aM jP (lq "_law_quotient_right") aI:=T6.up (by k_extra "q")
   have NG:(lb&&!cb)=true↔Let b.B r0 ts:=by
    unfold Let
    rw[<-ND,<-j4]
    cases lb <;> cases cb <;> simp
   cases hL:lb&&!cb with
   |false=>
    have nL:¬Let b.B r0 ts:=λq=>by replace hL:=(NG.mpr q)▸hL;cases hL
    obtain rfl:z=0:=by
     rcases pr with⟨q,_⟩|⟨_,q⟩
     ·exact absurd q nL
     ·exact q
    refine b9 dY (by k_extra "b") (by refine hL.symm▸?_;rfl) λjz o4 bP eD=>?_
    refine ab λQ6 wm=>?_
    refine bR eD (by k_extra "v") λv AV zY dy mB q=>?_
    obtain rfl:v= .bool true:=q
    refine wm.ret (q_.ret (ah ?_))
    exact fin2 b' aI AV uW zY ((Jl trivial).trans (bP.trans dy)) mB (Ql.up (bP.trans dy)) ((l8.lf bP).lf dy) ex ln
   |true=>
    have TU:qH b.B i0 r0 nn dd (ay b.B ts) b'.B z:=by
     rcases pr with⟨_,q⟩|⟨q,_⟩
     ·exact q
     ·exact absurd (NG.mp hL) q
    have Kf:∀v∈ay b.B ts,v.1≠0:=λv hv=>by
     refine aU (List.mem_filterMap.mp hv) λu hu e=>?_
     refine aU ((NG.mp hL).1 u hu) λq e2 hq=>?_
     replace e2:=e▸e2;cases e2;exact hq
    have lo:∀v∈ay b.B ts,dD nn 2 v.1 v.2:=λv hv=>by
     refine aU (List.mem_filterMap.mp hv) λu hu e=>?_
     refine aU (Am u hu) λr er hn=>?_
     refine fF (mR e) λr2 e2 e3 e4=>?_
     replace e2:=er▸e2;cases e2
     refine dm (hn e3) λa c e5 l=>?_
     replace e5:=e4▸e5;cases e5
     exact oI l
    have nc:∀n,aK 4000 (cg ((ay b.B ts).take n)):=λn=>(Cb (nn:=nn) (s:=2) (λq hq=>.inl (lo q (List.mem_of_mem_take hq))) λq hq=>Kf q (List.mem_of_mem_take hq)).mono (by
     have h5:((ay b.B ts).take n).length<=3:=Nat.le_trans (List.length_take_le' _ _) (DB▸Kd)
     have:nn*((ay b.B ts).take n).length<=nn*3:=Nat.mul_le_mul_left _ h5
     lia)
    refine aN dY (by k_extra "b") (by refine hL.symm▸?_;rfl) λjz o4 bP eD=>?_
    refine aB (q_.go ?_)
    refine ab λQ6 wm=>?_
    refine aH C eD (by k_extra "a") (Px.pair C.nt Px.int Px.int (by k_extra "R") (by k_extra "R")) (λvt Kh AV zY dy mB TV Ki=>?_) (by k_extra "R")
    refine wm.go ?_
    refine ab λQ7 mW=>?_
    refine oy (qs:=ay b'.B ts) (λn g m=>Ps m [(U "world",.ref W.wd),(U "points",.ref pa),(U "bank",.ref W.k.self),(U "told",.int (z:Int) t),(U "figures",.ref fa),(U "first",.int (i0:Int) t0)]/\∃vt,m (U "total")=some vt/\aW g vt (.inr (cg ((ay b.B ts).take n)))) C mB
     (Px.mono (t:=.f (ay b'.B ts)) (Px.local C (v:=.ref fa) (by k_extra "a") (by k_extra "w")) λv g' S' q=>⟨fa,TR,q,NA.up (by k_extra "q"),NB.up (Sub.aj (by k_extra "q"))⟩) (by k_extra "a") (λga Sa=>⟨DE.st Ki (by kernel_rfl),vt,St.hd Ki,aW.up Sa.aj TV⟩) ?_ ?_
    ·rintro n v ma mb ga ha c Q8 ⟨⟨q1,q2⟩,eq,pq⟩ Sa Fa ⟨MG,zV,et,pt⟩ Mb kn kr
     replace eq:=DB▸eq
     have Fs:=lo _ (List.mem_of_getElem? eq)
     have pv:aW ga zV (.inr ((cg ((ay b.B ts).take n)).1,(cg ((ay b.B ts).take n)).2)):=pt
     have hp:=nc n
     refine ab λQ9 zO=>?_
     refine aH C Fa (by k_extra "a") (s:=.i (sg q1)) (Px.ite (c:=bM .Gt q1 0) (Pb.cmp (by k_extra "v") (by k_extra "v") (Kc.int (by k_extra "R")) (by k_extra "R")) (by
      unfold sg
      by_cases hp:0<q1
      ·rw[if_pos (by simpa[bM] using hp),if_pos hp];exact Px.int
      ·rw[if_neg (by simpa[bM] using hp)];refine(if_neg hp).symm▸?_;exact Px.neg Px.int)) (λvc mc gc hc Sc Fc qc Mc=>?_) (by k_extra "R")
     refine aP qc λtc ak=>?_
     clear qc
     obtain rfl:=ak
     refine zO.go ?_
     refine ab λQa tK=>?_
     have bs:Bt 4 (sg q1):=Nat.lt_of_lt_of_le (by refine(zZ ..).symm▸?_;decide) (Nat.le_refl _)
     have V8:mc (U "total")=some zV:=by k_extra "w"
     have V9:=pv.up Sc.aj
     have V':aW gc v (.inr (q1,q2)):=pq.up Sc.aj
     refine aH C Fc (by k_extra "a") (Px.pair C.nt (Px.mul (n:=4700) (k:=4) (Px.mul (n:=4000) (k:=700) (by k_extra "v") (by k_extra "v") hp.1 (Fs.bb.mono (by k_extra "z")) (by decide)) (by k_extra "v") (hp.1.mul (Fs.bb.mono (m:=700) (by k_extra "z"))) bs (by decide)) (Px.mul (n:=4700) (k:=4) (Px.mul (n:=4000) (k:=700) (by k_extra "v") (by k_extra "v") hp.2.1 (Fs.ba.mono (by k_extra "z")) (by decide)) (by k_extra "v") (hp.2.1.mul (Fs.ba.mono (m:=700) (by k_extra "z"))) bs (by decide)) (by k_extra "R") (by k_extra "R")) (λvd md gd hd Sd Fd qd Md=>?_) (by k_extra "R")
     refine tK.go (aB ?_)
     refine kn md gd hd (Sc.trans Sd) Fd ⟨((MG.st Mb (by kernel_rfl)).st Mc (by kernel_rfl)).st Md (by kernel_rfl),vd,St.hd Md,?_⟩
     refine(take_snoc eq).symm▸(jC ..).symm▸?_
     exact qd
    ·rintro NH TX FN H0 TY Jm DN ⟨Qm,zV,et,pt⟩
     replace pt:=List.take_length▸DB▸pt
     have pt:aW FN zV (.inr ((cg (ay b.B ts)).1,(cg (ay b.B ts)).2)):=aW.lf pt Jm
     have hf:=nc (ay b.B ts).length
     replace hf:=List.take_length▸hf
     refine mW.go ?_
     refine ab λQ8 uQ=>?_
     have NI:Wf W b' (b'.l W.k++(809,Tb aI)::lr) FN:=l8.lf (by k_extra "q")
     have Qn:aM FN (lq "_law_quotient_right") aI:=Ql.up (by k_extra "q")
     have Cr:True->Sub g FN:=λζ=>(Jl trivial).trans (by k_extra "q")
     have IJ:∀r:Row,b'.B[z]? =some r->(r.2.2.1=1\/r.2.2.1=2)->(z:Int)≠0:=λr e hs=>by
      have:=lW NI.e0 e rfl hs
      lia
     refine aU (ht i0 List.mem_cons_self) λs0 BQ Kg=>?_
     refine fF Kg.row λSY FO Cg Cj=>?_
     replace FO:=zW▸FO;cases FO
     have Iz:r0.2.2.1=1\/r0.2.2.1=2:=by refine Cg.symm▸?_;exact BQ
     have TZ:(ay b.B ts).length<=3:=DB▸Kd
     clear mB eD dY iA X6 X8 i5 l8
     cases TU with
     |num q0 r qJ Ih e e1 e2 e3 l sm=>
      obtain⟨a0,c0⟩:=q0
      refine dm (Cj qJ) λa1 c1 e4 l0=>?_
      replace e4:=Ih▸e4;cases e4
      have ip:c0*(cg (ay b.B ts)).2≠0:=Int.mul_ne_zero (Int.ne_of_gt l0.pos) (Int.ne_of_gt hf.2.2)
      have SV:Bt 9000 (c0*(cg (ay b.B ts)).2):=((l0.bb.mono hn).mul hf.2.1).mono (by decide)
      refine b9 DN (by k_extra "b") (by simpa using qJ) λNJ Qo jU DO=>?_
      refine ab λQ9 zO=>?_
      refine lV C DO (Px.mul (n:=500) (k:=4000) (by k_extra "v") (by k_extra "v") (l0.ba.mono hn) hf.1 (by decide)) (Px.mul (n:=500) (k:=4000) (by k_extra "v") (by k_extra "v") (l0.bb.mono hn) hf.2.1 (by decide)) (λv1 v2 Jn Jo mf DP q1 q2=>?_) (by k_extra "R") (by refine hE.symm▸?_;k_extra "R") (by k_extra "R") (by k_extra "R")
      refine aP q1 λt1 ak=>?_
      clear q1
      obtain rfl:=ak
      refine aP q2 λt2 ak=>?_
      clear q2
      obtain rfl:=ak
      refine aA C DP (by k_extra "a") λNK NL DQ T9=>?_
      refine aA C DQ (by k_extra "a") λNM Kw AX Qp=>?_
      refine zO.go ?_
      refine ab λQa tK=>?_
      refine bR AX (Px.and (by k_extra "v") λζ=>Px.and (by k_extra "v") λζ=>Px.and (by k_extra "v") λζ=>Px.one (by k_extra "v")) λv NN Kx DR Ct q=>?_
      obtain rfl:v= .bool true:=by
       have h7:=IJ r e (.inr e2)
       refine(show v=_ from q).symm▸e1.symm▸e2.symm▸(oN l sm ip).symm▸?_
       simp[bM];lia
      refine tK.ret (uQ.ret (ah ?_))
      exact fin2 b' aI NN NM Kx ((Cr trivial).trans (jU.trans (mf.trans DR))) Ct (Qn.up (jU.trans (mf.trans DR))) (NI.lf (jU.trans (mf.trans DR))) ex ln
     |FE r qJ e hr hs h0 wt=>
      refine aN DN (by k_extra "b") (by simpa using qJ) λNJ Qo jU DO=>?_
      refine aB (uQ.go ?_)
      refine ab λQ9 zO=>?_
      refine aN DO (by k_extra "b") ?_ λJn Jo mf DP=>?_
      ·have h7:=IJ r e (hs▸Iz)
       have h8:us.length=0->z=i0:=λq=>h0 (by refine(List.length_eq_zero_iff.mp (GD.symm.trans q)).symm▸?_;rfl)
       by_cases h9:us.length=0
       ·simp[bM,hs,h8 h9];replace h7:=(h8 h9)▸h7;lia
       ·simp[bM,hs,h9];lia
      refine aB (zO.go ?_)
      refine ab λQa tK=>?_
      have Qq:=NI.lf (jU.trans mf)
      have T_:=aW.lf pt (jU.trans mf)
      refine tJ (kvs:=[(U "world",.ref W.wd),(U "told",.int (z:Int) t),(U "first",.int (i0:Int) t0),(U "total",zV)]) C DP (by k_extra "v") (Z.ls.up ((Cr trivial).trans (jU.trans mf))) (by k_extra "a") (.cons (by k_extra "w") (.cons (by k_extra "w") (.cons (by k_extra "w") (.cons (by k_extra "w") (.nil _))))) (by kernel_rfl) (λn v NK Jp NL c Qb hv tY DQ Qr T9 kn kr=>?_) λNK Jp NL tY DQ Qr=>?_
      ·refine fv ((Z.lf ((Cr trivial).trans (jU.trans (mf.trans tY)))).get hv) λp Ky ak Pp ok=>?_
       obtain rfl:=ak
       obtain⟨⟨a,c1⟩,xq⟩:=Kg.worth Ky ok
       refine aU (wt Ky ok (a,c1) xq) λq' IM Fo=>?_
       have IP:=xq.ext ex
       have r1:=IP.rat (by k_extra "z")
       have r2:=(IM.rat (by k_extra "z")).mono (show 20000000<=67108864 by decide)
       have MK:Bt 20000000 a:=r1.1
       have ML:Bt 20000000 c1:=r1.2.1
       have MM:Bt 20000000 (cg (ay b.B ts)).1:=hf.1.mono (by decide)
       have MN:Bt 20000000 (cg (ay b.B ts)).2:=hf.2.1.mono (by decide)
       have r3:aK 67108864 (a*(cg (ay b.B ts)).1,c1*(cg (ay b.B ts)).2):=⟨(MK.mul MM).mono (by decide),(ML.mul MN).mono (by decide),Int.mul_pos r1.2.2 hf.2.2⟩
       have V_:=(Qq.lf tY).more (l':=c::(b'.l W.k++(809,Tb aI)::lr)) λz hz=>List.mem_cons_of_mem _ hz
       refine ab λQc uS=>?_
       refine aH C DQ (by k_extra "a") (by k_extra "v") (λUa NM NO Kw Cu AX Qs Qp=>?_) (by k_extra "R")
       have Qs:aW NO Ua (.inr (a,c1)):=Qs
       refine uS.go ?_
       refine ab λQd FA=>?_
       refine aN AX (by k_extra "b") ?_ λNN Kx DR Ct=>?_
       ·have Fo:q'.1*(c1*(cg (ay b.B ts)).2)=a*(cg (ay b.B ts)).1*q'.2:=Fo
        simpa using Fo
       refine aB (FA.go (aB ?_))
       exact kn NM NN Kx (Cu.trans DR) Ct (Qr.st Qp (by kernel_rfl))
      ·refine tK.go ?_
       refine ab λQc uS=>?_
       refine bR DQ Px.bool λv NO Kw Cu AX q=>?_
       obtain rfl:v= .bool true:=q
       refine uS.ret (ah ?_)
       exact fin2 b' aI NO NK Kw ((Cr trivial).trans (jU.trans (mf.trans (tY.trans Cu)))) AX (Qn.up (jU.trans (mf.trans (tY.trans Cu)))) (Qq.lf (tY.trans Cu)) ex ln)
  refine uO (c:=cb) iA (by refine Qk.symm▸?_;k_extra "b") λjP wF dh dY=>?_
  cases cb with
  |false=>exact aB (main AU jP wF dh dY DC (by refine NF.symm▸?_;simp))
  |true=>
   refine au (aH C dY (by k_extra "a") Px.bool (λMO IZ jz o4 bP eD Ke Fz=>?_) (by k_extra "R"))
   obtain rfl:MO= .bool false:=Ke
   exact aB (main IZ jz o4 (dh.trans bP) eD (DC.st Fz (by kernel_rfl)) (by refine Fz.hd.symm▸?_;simp))
 refine i3 (n:=10) (qual:=lq "_law_quotient_right") (T:=809) (ps:=ps) (l':=λaI=>b.l W.k++(809,Tb aI)::lr) (P:=λaI=>tU W.k ((809,Tb aI)::lr) λj b'=>Let b.B r0 ts/\qH b.B i0 r0 nn dd (ay b.B ts) b'.B j/\Ext b.B b'.B/\b'.B.length<=b.B.length+10) (B:=λaI=>mE W.k ((809,Tb aI)::lr) λb'=>¬Let b.B r0 ts/\Ext b.B b'.B/\b'.B.length<=b.B.length+10)
  C F5 X5.gd hB (by k_extra "a") (by decide) (by rw[hE];k_extra "R") (by k_extra "R") (by rw[hE];rfl) (Cq X5.gd) (by decide) (by decide) (λaI=>dA.app _) ((hT.up S).up i4) (by rw[hE];k_extra "R") (λf c' pm ek aI g6 S6 hf hc=>?_) (λaI l' h h' q t=>q.up t) (λv aI l6 g6 h6 S6 T6 F6 q6=>?_) (λt aI l6 g6 h6 S6 T6 F6 q6=>?_) (by k_extra "R") (by k_extra "R")
 ·exact tV (nt:=rb) (sn:=W.sn) (X5.gd.up S6) hf hc (by rfl) (by kernel_rfl) rfl (λFp m2 l2 gW=>Px.free (c:=Γ.L+1+1) (by refine gW.symm▸?_;rfl) (by refine gW.symm▸?_;k_extra "R") (by decide +kernel) (by refine gW.symm▸?_;k_extra "R") (kg.up S6)) (N.up S6)
   (λFp m2 l2 gW C2=>Px.qZ (Px.free (c:=Γ.L+1) (by refine gW.symm▸?_;rfl) (by refine gW.symm▸?_;k_extra "R") (by decide +kernel) (by refine gW.symm▸?_;k_extra "R") (ks.up S6)) (((hl.up S).up i4).up S6)) (X5.wo.inst.up S6) X.d4 (X5.sf.lf S6) (X5.bk.lf S6) (by k_extra "z") hi h3 zW ht h1 hn (λζ=>⟨_,rfl⟩) (λζ=>rfl)
 ·refine q6.go F6 λj tj b' ev F6 m_ pr=>?_
  subst ev
  exact fin j tj b' aI g6 h6 S6 T6 F6 m_ (.inl ⟨pr.1,pr.2.1⟩) pr.2.2.1 pr.2.2.2
 ·exact q6.go F6 λb' F6 m_ pr=>fin 0 t b' aI g6 h6 S6 T6 F6 m_ (.inr ⟨pr.1,rfl⟩) pr.2.1 pr.2.2
end
noncomputable def d8(nm:Str)(qs:List (Int×Int)):List Bool:=List.zipWith (λp q=>dr nm p.1 p.2 q.1 q.2) qs (qs.drop 1)
theorem qP{nm:Str}{qs:List (Int×Int)}{n:Nat}{p q:Int×Int}(hp:qs[n]? =some p)(hq:qs[n+1]? =some q):(d8 nm qs)[n]? =some (dr nm p.1 p.2 q.1 q.2):=by
 unfold d8
 refine List.getElem?_zipWith.symm▸hp.symm▸List.getElem?_drop.symm▸(Nat.add_comm 1 n).symm▸hq.symm▸?_
 rfl
theorem jE(nm:Str)(qs:List (Int×Int)):(d8 nm qs).length=qs.length-1:=by
 unfold d8
 refine List.length_zipWith.symm▸List.length_drop.symm▸?_;exact Nat.min_eq_right (Nat.sub_le _ _)
theorem Jq(p q:Int×Int):dr (U "<=") p.1 p.2 q.1 q.2=(cq p q||!cq q p):=by
 unfold dr cq
 rw[if_neg (by decide +kernel),if_neg (by decide +kernel)]
 refine(if_pos rfl).symm▸?_
 by_cases h1:p.1*q.2<q.1*p.2 <;> by_cases h2:q.1*p.2<p.1*q.2 <;> simp[h1,h2]
 lia
theorem Jr(p q:Int×Int):dr (U "<") p.1 p.2 q.1 q.2=cq p q:=by
 unfold dr cq
 refine(if_pos rfl).symm▸?_
 rfl
theorem Js(p q:Int×Int):dr (U ">=") p.1 p.2 q.1 q.2=(cq q p||!cq p q):=by
 unfold dr cq
 rw[if_neg (by decide +kernel),if_neg (by decide +kernel),if_neg (by decide +kernel)]
 by_cases h1:p.1*q.2<q.1*p.2 <;> by_cases h2:q.1*p.2<p.1*q.2 <;> simp[h1,h2]
 lia
theorem Jt(p q:Int×Int):dr (U ">") p.1 p.2 q.1 q.2=cq q p:=by
 unfold dr cq
 rw[if_neg (by decide +kernel)]
 refine(if_pos rfl).symm▸?_
 rfl
theorem wI{B B':List Row}{nm op:Str}{sw:Bool}{is:List Nat}{qs:List (Int×Int)}{j dd:Nat}{pt:Pt}(sg:Sign nm op sw)(e0:Ext bC B')(ro:d6 B B' op sw is j)(h4:is.length<=4)(hl:qs.length=is.length)(hw:∀(n i:Nat) (q:Int×Int),is[n]? =some i->qs[n]? =some q->Wt B pt dd i (.inr q)):Wt B' pt (dd+2) j (.inl ((d8 nm qs).all id)):=by
 obtain⟨js,B1,eW,up,ex,cj,ln⟩:=ro
 have hd:=jE nm qs
 have each:∀(n jn:Nat),js[n]? =some jn->∃b,(d8 nm qs)[n]? =some b/\Wt B1 pt (dd+1) jn (.inl b):=λn jn hj=>by
  have hn:=(List.getElem?_eq_some_iff.mp hj).1
  refine aP (⟨_,List.getElem?_eq_getElem (a2 eW hn)⟩:∃a,is[n]? =some a) λa ea=>?_
  refine aP (⟨_,List.getElem?_eq_getElem (a3 eW hn)⟩:∃a,is[n+1]? =some a) λc ec=>?_
  refine aP (⟨_,List.getElem?_eq_getElem (hl▸a2 eW hn)⟩:∃a,qs[n]? =some a) λp ep=>?_
  refine aP (⟨_,List.getElem?_eq_getElem (hl▸a3 eW hn)⟩:∃a,qs[n+1]? =some a) λq eq=>?_
  have r:=up n jn a c hj ea ec
  have w1:=(hw n a p ea ep).ext ex
  have w2:=(hw (n+1) c q ec eq).ext ex
  refine⟨_,qP ep eq,?_⟩
  cases sg with
  |le=>rw[Jq];exact .two r w1 w2 (.le _ _)
  |lt=>rw[Jr];exact .two r w1 w2 (.lt _ _)
  |ge=>rw[Js];exact .two r w2 w1 (.le _ _)
  |gt=>rw[Jt];exact .two r w2 w1 (.lt _ _)
 rcases cj with⟨e,rfl,rfl⟩|⟨e,rfl⟩|⟨_,m⟩
 ·have:js=[]:=by simpa using e
  subst this
  have:d8 nm qs=[]:=List.eq_nil_of_length_eq_zero (by refine hd.symm▸hl.symm▸?_;exact eW.symm)
  refine this.symm▸?_
  exact .tt (e0.get (i:=1) rfl)
 ·refine aP (List.length_eq_one_iff.mp (by have:=congrArg List.length e;simpa using this):∃j',js=[j']) λj' ak=>?_
  obtain rfl:=ak
  obtain rfl:j'=j:=by
   have e:((j':Nat):Int)=(j:Int):=by simpa using e
   lia
  refine aU (each 0 j' rfl) λb eb wb=>?_
  have:d8 nm qs=[b]:=by
   have h1:(d8 nm qs).length=1:=by refine hd.symm▸hl.symm▸?_;exact eW.symm
   refine aP (List.length_eq_one_iff.mp h1) λc hc=>?_
   rw[hc] at eb ⊢
   cases eb;rfl
  refine this.symm▸?_
  simpa using wb.up
 ·refine .op m.at (by rw[List.length_map,hd,hl,eW]) (a4 eW (Nat.le_trans h4 (by decide))) (λn jn b hj hb=>?_) (.and _)
  refine aU (each n jn hj) λb' eb wb=>?_
  replace hb:=eb▸List.getElem?_map▸hb;cases hb
  exact wb.ext m.ext
theorem d6.row{B B':List Row}{nm op:Str}{sw:Bool}{is:List Nat}{j:Nat}(sg:Sign nm op sw)(e0:Ext bC B')(ro:d6 B B' op sw is j):∃r,B'[j]? =some r/\r.2.2.1=0/\(j:Int)≠0:=by
 obtain⟨js,B1,eW,up,ex,cj,ln⟩:=ro
 have h0:B'[0]? =some ik:=e0.get rfl
 have nz:∀(op:Str) is x,op≠U ""->B'[j]? =some (op,is,(0:Int),x)->(j:Int)≠0:=λop is x ho e q=>by
  have:j=0:=by lia
  replace e:=h0▸this▸e
  exact ho (congrArg (·.1) (Option.some.inj e)).symm
 rcases cj with⟨_,rfl,rfl⟩|⟨e,rfl⟩|⟨_,m⟩
 ·exact⟨_,e0.get (i:=1) rfl,rfl,by decide⟩
 ·refine aP (List.length_eq_one_iff.mp (by have:=congrArg List.length e;simpa using this):∃j',js=[j']) λj' ak=>?_
  obtain rfl:=ak
  obtain rfl:j'=j:=by
   have e:((j':Nat):Int)=(j:Int):=by simpa using e
   lia
  have ni:is.length-1=1:=eW.symm
  have r:=up 0 j' _ _ rfl (List.getElem?_eq_getElem (a2 eW (Nat.zero_lt_one))) (List.getElem?_eq_getElem (a3 eW Nat.zero_lt_one))
  exact⟨_,r,rfl,nz _ _ _ (by cases sg <;> decide +kernel) r⟩
 ·exact⟨_,m.at,rfl,nz _ _ _ (by decide +kernel) m.at⟩
theorem d6.one{B B':List Row}{op:Str}{sw:Bool}{a c j:Nat}(ro:d6 B B' op sw [a,c] j):B'[j]? =some (op,[((if sw then c else a:Nat):Int),((if sw then a else c:Nat):Int)],0,.inl 0):=by
 obtain⟨js,B1,eW,up,ex,cj,ln⟩:=ro
 refine aP (List.length_eq_one_iff.mp eW:∃j',js=[j']) λj' ak=>?_
 obtain rfl:=ak
 rcases cj with⟨e,_,_⟩|⟨e,rfl⟩|⟨e,_⟩
 ·cases e
 ·obtain rfl:j'=j:=by
   have e:((j':Nat):Int)=(j:Int):=by simpa using e
   lia
  exact up 0 j' a c rfl rfl rfl
 ·simp at e
theorem d6.ext{B B':List Row}{op:Str}{sw:Bool}{is:List Nat}{j:Nat}(ro:d6 B B' op sw is j):Ext B B'/\B'.length<=B.length+is.length:=by
 obtain⟨js,B1,eW,up,ex,cj,ln⟩:=ro
 rcases cj with⟨_,_,rfl⟩|⟨_,rfl⟩|⟨h,m⟩
 ·exact⟨ex,Nat.le_trans ln (Nat.add_le_add_left (a4 eW (Nat.le_refl _)) _)⟩
 ·exact⟨ex,Nat.le_trans ln (Nat.add_le_add_left (a4 eW (Nat.le_refl _)) _)⟩
 ·have:=m.len
  simp at h
  exact⟨ex.trans m.ext,by lia⟩
noncomputable def aR(B:List Row)(i:Int):Int:=((B[i.toNat]?).map λr=>r.2.2.1).getD 0
theorem dc{B:List Row}{i:Nat}{r:Row}(e:B[i]? =some r):aR B (i:Int)=r.2.2.1:=by
 unfold aR;refine(Int.toNat_natCast ..).symm▸e.symm▸?_;rfl
theorem wJ{B:List Row}{is:List Nat}(h:∀i∈is,∃r,B[i]? =some r):bI B is (is.length-1)↔(((bA is).zip ((bA is).drop 1)).filter λq=>!(aR B q.1==aR B q.2))=[]:=by
 rw[List.filter_eq_nil_iff]
 constructor
 ·intro k q hq ip
  refine aP (List.mem_iff_getElem?.mp hq) λn hn=>?_
  refine i_ (List.getElem?_zip_eq_some.mp hn) λe1 e2=>?_
  replace e2:=List.getElem?_drop▸e2
  have gm:∀(m:Nat) (z:Int),(bA is)[m]? =some z->∃a:Nat,is[m]? =some a/\(a:Int)=z:=λm z e=>by
   unfold bA at e
   replace e:=List.getElem?_map▸e
   exact Option.map_eq_some_iff.mp e
  refine aU (gm _ _ e1) λa ea ha=>?_
  refine aU (gm _ _ e2) λc ec hc=>?_
  refine aP (h a (List.mem_of_getElem? ea)) λr er=>?_
  refine aP (h c (List.mem_of_getElem? ec)) λr' kx=>?_
  have kj:=(List.getElem?_eq_some_iff.mp ec).1
  have:=k n (a1 (by refine(Nat.add_comm ..).symm▸?_;exact kj)) a c r r' ea (by refine(Nat.add_comm n 1).symm▸?_;exact ec) er kx
  replace ip:=this▸(dc kx)▸(dc er)▸hc.symm▸ha.symm▸ip
  simp at ip
 ·intro k i hi a c r r' ea ec er kx
  have:=k ((a:Int),(c:Int)) (List.mem_iff_getElem?.mpr ⟨i,List.getElem?_zip_eq_some.mpr ⟨by show(is.map _)[i]? =_;refine List.getElem?_map.symm▸ea.symm▸?_;rfl,by refine List.getElem?_drop.symm▸(Nat.add_comm 1 i).symm▸?_;show(is.map _)[i+1]? =_;refine List.getElem?_map.symm▸ec.symm▸?_;rfl⟩⟩)
  replace this:=(dc kx)▸(dc er)▸this
  have this:(r.2.2.1==r'.2.2.1)=true:=by
   cases h:(r.2.2.1==r'.2.2.1)
   ·replace this:=h▸this;exact absurd rfl this
   ·rfl
  exact(beq_iff_eq.mp this).symm
section
variable{Γ:Cx}{A:Around}{E:Value->Heap->Prop}{m m':Str->Option Value}{l l' lr:List Cell}{g g' h h':Heap}{r:Nat}{ns gs:List Str}{cs:List (Str×Addr)}{e e':Expr}{s t:Sp}{pos:Pos}{k:dg}{b:BS}
theorem tZ(C:Co Γ r ns gs cs){x:Str}{c:Addr}{v:Value}{E Q:Value->Heap->Prop}(hx:Kv cs x c)(hm:(c,Ce (some v))∈l)(F:Fv Γ g m l h)(q:Q v h):Wp Γ.A (eval (.Name x pos) Γ.env) Q E h:=sV C.ev.kind C.ec hx.mem (F.get hm) q
theorem Px.pS(C:Co Γ r ns gs cs){x:Str}{c:Addr}{v:Value}(hx:Kv cs x c)(hm:(c,Ce (some v))∈l):Px Γ m l g (.Name x pos) (.v v):=
 .val λE Q g1 h S F q=>tZ C hx hm F q
theorem Cv{x:Str}{p:Pos}{iter:Expr}{body:List Stmt}{a pc:Addr}{u0:Option Value}{xs:List Value}{kvs:List (Str×Value)}{Q:Flow->Heap->Prop}(C:Co Γ r ns gs cs)(F:Fv Γ g m ((pc,Ce u0)::lr) h)(y:Px Γ m ((pc,Ce u0)::lr) g iter (.v (.ref a)))(hl:Ls g a xs)(hx:Kv cs x pc)(P:Ps m kvs)
  (turn:∀(i:Nat) (v:Value) m1 g1 h1 c Q',xs[i]? =some v->Sub g g1->Fv Γ g1 m1 (c::(pc,Ce (some v))::lr) h1->Ps m1 kvs->(∀m2 g2 h2,Sub g1 g2->Fv Γ g2 m2 (c::(pc,Ce (some v))::lr) h2->Ps m2 kvs->Q' .next h2)->(∀u h2,Q (.ret u) h2->Q' (.ret u) h2)->Wp Γ.A (execs body Γ.env) Q' (λζ ζ=>False) h1)
  (done:∀m1 g1 h1 u,Sub g g1->Fv Γ g1 m1 ((pc,Ce u)::lr) h1->Ps m1 kvs->Q .next h1)
  (hs:∀x,foldedSetIterable iter Γ.env x=pure x:=by intro _;rfl):Wp Γ.A (exec (.For (.Name x p) iter body [] pos) Γ.env) Q E h:=by
 refine gQ (n:=xs.length) (P:=λi v=>xs[i]? =some v) Γ.ρ Γ.L C.rm.hd (λi g1 m1 l1=>Sub g g1/\(∃u,l1=(pc,Ce u)::lr)/\Ps m1 kvs) ?_ ?_ ?_ hs
 ·exact y.go _ _ g h (Sub.refl _) F λv g2 h2 S2 F2 q=>by
   obtain rfl:v= .ref a:=q
   exact⟨g2,m,_,F2,Src.list (hl.up S2),S2,⟨u0,rfl⟩,P⟩
 ·rintro i v g1 m1 l1 h1 it q hi hv ⟨S1,⟨u,rfl⟩,P1⟩ F1
  refine aY (dC C F1 hx (.tl .hd) λh' F2=>?_)
  exact turn i v m1 g1 h' (it,q) _ hv S1 F2 P1 (λm2 g2 h2 S2 F3 P3=>⟨g2,m2,_,F3,S2,S1.trans S2,⟨_,rfl⟩,P3⟩) λu h2 q=>q
 ·rintro g1 m1 l1 h1 g2 ⟨S1,⟨u,rfl⟩,P1⟩ S2 F2
  exact done m1 g2 h1 u (S1.trans S2) F2 P1
theorem uY{i:Nat}{r:Row}(x:Bf k b l g)(hA:Rm A 1)(e:b.B[i]? =some r):Qc A 231 [.v (.ref k.self),.i (i:Int)] (.i r.2.2.1) g l:=
 ⟨λR ρ L m g1 h vs nt S F a kk=>by
  obtain⟨ζ,ζ,rfl,p,⟨t,rfl⟩⟩:=kA a
  exact(y6 (t:=t) x hA e).go R ρ L m g1 h _ nt S F (.cons p (.cons rfl .nil)) kk⟩
end
section
variable{W:WA}{A:Around}{b:BS}{g h:Heap}{R:Result->Heap->Prop}{ρ:List (Addr×Obj)}{sn:Addr}
theorem Cw(G:Gd g):CodeHd g 823 821:=⟨nC,_,_,_,_,_,_,_,_,G.k 134 rfl,rfl,rfl,rfl,rfl,rfl,rfl,rfl,rfl,by decide⟩
theorem wK{vs:List Value}{is:List Int}(x:IntsAre vs is):IntsAre (vs.drop 1) (is.drop 1):=by
 cases x with
 |nil=>exact .nil
 |cons n t y=>exact y
theorem wL{is:List Nat}{q:Int×Int}(h:q∈(bA is).zip ((bA is).drop 1)):∃a∈is,∃c∈is,q=((a:Int),(c:Int)):=by
 have h1:=(List.of_mem_zip (a:=q.1) (b:=q.2) h)
 refine aU (List.mem_map.mp h1.1) λa ha e1=>?_
 refine aU (List.mem_map.mp (List.mem_of_mem_drop h1.2)) λc hc e2=>?_
 exact⟨a,ha,c,hc,Prod.ext e1.symm e2.symm⟩
theorem qQ{B:List Row}{pt:Pt}{dd:Nat}{is:List Nat}(k:∀i∈is,∃q,Wt B pt dd i (.inr q)):∃qs:List (Int×Int),qs.length=is.length/\∀(n i:Nat) (q:Int×Int),is[n]? =some i->qs[n]? =some q->Wt B pt dd i (.inr q):=by
 induction is with
 |nil=>exact⟨[],rfl,λn i q h=>nomatch h⟩
 |cons i is ih=>
  refine aP (k i List.mem_cons_self) λq hq=>?_
  refine aU (ih λj hj=>k j (List.mem_cons_of_mem _ hj)) λqs hl h=>?_
  refine⟨q::qs,congrArg (·+1) hl,λn j p h1 h2=>?_⟩
  cases n with
  |zero=>cases h1;cases h2;exact hq
  |succ n=>exact h n j p h1 h2
theorem Cy{g:Heap}{qs:List (Int×Int)}{ys:List Value}(a:Ar g ((qs.map λq=>some (Sp.p (.inr q))).filterMap id) ys):du g ys qs:=by
 induction qs generalizing ys with
 |nil=>cases a;exact .nil
 |cons q qs ih=>cases a with|cons p a=>exact .cons p (ih a)
theorem jF{nm op:Str}{sw:Bool}{sa pa p0 p1:Addr}{vs:List Value}{is:List Nat}{iF iG:Pt}{nn dd:Nat}{tn tt:Tok}{ps:Array Value}{lr:List Cell}(sg:Sign nm op sw)(x:Gr ρ g h (b.l W.k++(821,Tb ps)::lr))(nt:eH ρ)(gw:Ao A ρ)(X:Wf W b (b.l W.k++(821,Tb ps)::lr) g)(Z:qY pa p0 p1 iF iG g)(hT:aM g (lq "_law_compared_right") ps)(AO:W.k.al.lookup (U "true_number")=some (.int 1 tt))(hA:Rm A 21)(hz:b.B.length<=4700)
  (hl:Ls g sa vs)(hi:IntsAre vs (bA is))(h0:is≠[])(h4:is.length<=4)(ht:∀i∈is,∃s,(s=1\/s=2)/\aF b.B nn dd s i)(hd:dd<=5)
  (K:∀(b':BS) aI g2 h',Step ρ (b.l W.k++(821,Tb ps)::lr) h (b'.l W.k++(821,Tb aI)::lr) h'->Gr ρ g2 h' (b'.l W.k++(821,Tb aI)::lr)->Sub g g2->Wf W b' (b'.l W.k++(821,Tb aI)::lr) g2->aM g2 (lq "_law_compared_right") aI->Ext b.B b'.B->b'.B.length<=b.B.length+10->R (.ok (.ret (.bool true))) h'):
  Cd A (.call (.ref 824) ⟨[.ref W.wd,.str nm tn,.ref sa,.ref pa],[]⟩) R h:=by
 have G:=X.gd
 refine dG [(U "points",.ref pa)] [U "told",U "pairs",U "worths",U "due"] (λn=>[(U "given",n+5),(U "point",n+4),(U "bank",n+3),(U "some",n+2),(U "sign",n+1),(U "world",n)]) (λn=>[(n+5,none),(n+4,none),(n+3,none),(n+2,some (.ref sa)),(n+1,some (.str nm tn)),(n,some (.ref W.wd))]) (binds:=[(U "world",.ref W.wd),(U "sign",.str nm tn),(U "some",.ref sa),(U "points",.ref pa)]) (ns:=[U "points",U "told",U "pairs",U "worths",U "due"]) (gs:=[U "NumberTerms",U "_law_tried",U "list",U "zip",U "len",U "_law_worth"]) (r:=20) x nt G hA (gj G) (gp G) rfl rfl rfl rfl (λn=>by k_extra "R") (λn=>by k_extra "R") (by kernel_rfl) (λn=>rfl) λΓ m g1 wX eX hE bS C P S F=>?_
 have hB:Ab Γ.A Γ.env Γ.L Γ.ρ:=by refine eX.symm▸?_;exact Ab.H7 gw hE bS C.ev
 have X1:=X.lf S
 replace F:Fv Γ g1 m ((Γ.L+1+5,Ce none)::(Γ.L+1+4,Ce none)::(Γ.L+1+3,Ce none)::(Γ.L+1+2,Ce (some (.ref sa)))::(Γ.L+1+1,Ce (some (.str nm tn)))::(Γ.L+1,Ce (some (.ref W.wd)))::(b.l W.k++(821,Tb ps)::lr)) wX:=F
 refine ab λQ0 me=>?_
 refine lU C F (Px.key (Px.pS C (v:=.ref W.wd) (by k_extra "a") (by k_extra "m")) X1.wd (by k_extra "a") (by intro _;k_extra "R")) (Px.eO C X1.gd (by decide) (by k_extra "a") (Px.key (Px.pS C (v:=.ref W.wd) (by k_extra "a") (by k_extra "m")) X1.wd (by k_extra "a") (by intro _;k_extra "R")) (by k_extra "R") (by k_extra "R")) (λv1 v2 g2 h2 S2 F2 q1 q2=>?_) (by k_extra "R") (by refine hE.symm▸?_;k_extra "R") (by k_extra "R") (by k_extra "R")
 obtain rfl:v1= .ref W.k.self:=q1
 refine aU q2 λrb ak N=>?_
 clear q2
 obtain rfl:=ak
 refine dC C F2 (by k_extra "a") (by k_extra "c") λWb F3=>?_
 refine dC C F3 (by k_extra "a") (by k_extra "c") λSQ F4=>?_
 have F4:=F4.perm (l':=[(Γ.L+1+5,some (.ref rb)),(Γ.L+1+3,some (.ref W.k.self)),(Γ.L+1+2,some (.ref sa)),(Γ.L+1+1,some (.str nm tn)),(Γ.L+1,some (.ref W.wd))].map (λp=>(p.1,Ce p.2))++(b.l W.k++(821,Tb ps)::(Γ.L+1+4,Ce none)::lr)) (.cons _ (by
  refine List.Perm.trans (List.perm_middle (l₁:=[(Γ.L+1+3,Ce (some (.ref W.k.self))),(Γ.L+1+2,Ce (some (.ref sa))),(Γ.L+1+1,Ce (some (.str nm tn))),(Γ.L+1,Ce (some (.ref W.wd)))])).symm (List.Perm.append_left [(Γ.L+1+3,Ce (some (.ref W.k.self))),(Γ.L+1+2,Ce (some (.ref sa))),(Γ.L+1+1,Ce (some (.str nm tn))),(Γ.L+1,Ce (some (.ref W.wd)))] ?_)
  show List.Perm ((Γ.L+1+4,Ce none)::(b.l W.k++(821,Tb ps)::lr)) _
  exact(List.perm_middle (l₁:=b.l W.k)).symm.trans (List.Perm.append_left _ (.swap ..))))
 refine fF F4.tE λg5 S5 kk F5=>?_
 have kg:Ck g5 (Γ.L+1+5) (.ref rb):=kk _ (.head _)
 have kb:Ck g5 (Γ.L+1+3) (.ref W.k.self):=kk _ (.tail _ (.head _))
 have ks:Ck g5 (Γ.L+1+2) (.ref sa):=kk _ (.tail _ (.tail _ (.head _)))
 have kn:Ck g5 (Γ.L+1+1) (.str nm tn):=kk _ (.tail _ (.tail _ (.tail _ (.head _))))
 have kw:Ck g5 (Γ.L+1) (.ref W.wd):=kk _ (.tail _ (.tail _ (.tail _ (.tail _ (.head _)))))
 have i4:=S2.trans S5
 replace N:=N.up S5
 clear F F2 F3 F4 kk
 have X5:=X1.lf i4
 refine me.go ?_
 refine ab λQ1 gE=>?_
 refine aZ ?_ (by k_extra "R")
 have wZ:=bG hi
 have wM:∀i∈is,∃r,b.B[i]? =some r/\(r.2.2.1=1\/r.2.2.1=2):=λi hi=>by
  refine aU (ht i hi) λs hs q=>?_
  refine fF q.row λr e e2 ζ=>?_
  exact⟨r,e,by refine e2.symm▸?_;exact hs⟩
 have fin2:∀(b2:BS) kB u gF mF hF,Sub g gF->Fv Γ gF mF (b2.l W.k++(821,Tb kB)::(Γ.L+1+4,Ce u)::lr) hF->aM gF (lq "_law_compared_right") kB->Wf W b2 (b2.l W.k++(821,Tb kB)::(Γ.L+1+4,Ce u)::lr) gF->Ext b.B b2.B->b2.B.length<=b.B.length+10->R (.ok (.ret (.bool true))) hF:=λb2 kB u gF mF hF SF FF TF XF eF lF=>by
  obtain⟨gG,SG,ζ,FG⟩:=Fx.weak (l':=b2.l W.k++(821,Tb kB)::lr) FF (List.Sublist.append (List.Sublist.refl _) (.cons_cons _ (.cons _ (List.Sublist.refl _))))
  obtain⟨IX,zU,y⟩:=Gr.out (L:=Γ.L) (m:=mF) x (eX▸(show Fx Γ.ρ gG Γ.L mF (b2.l W.k++(821,Tb kB)::lr) hF from FG)) (SF.trans SG)
  have XG:=XF.lf (SG.trans zU)
  exact K b2 kB IX hF (x.d5 eX FG (SF.trans SG)) y (SF.trans (SG.trans zU)) ⟨XG.wo,XG.d4,XG.vY,XG.fn,XG.qw,XG.sn,XG.bk,λζ hc=>List.mem_append_left _ hc,XG.len,XG.e0⟩ (TF.up (SG.trans zU)) eF lF
 have fin:∀(z:Nat) (t:Tok) (b':BS) aI g6 h6,Sub g5 g6->aM g6 (lq "_law_compared_right") aI->Fv Γ g6 m (b'.l W.k++(821,Tb aI)::(Γ.L+1+4,Ce none)::lr) h6->Bk W.k b'.B b'.ops b'.args b'.sorts b'.ae b'.xs h6->(bI b.B is (is.length-1)/\d6 b.B b'.B op sw is z\/¬bI b.B is (is.length-1)/\z=0)->Ext b.B b'.B->b'.B.length<=b.B.length+4->Wp Γ.A (storeName Γ.env (U "told") (.int (z:Int) t)) (λζ=>Q1 .next) (Lv Γ.A Γ.env R) h6:=λz t b' aI g6 h6 S6 T6 F6 m_ pr ex ln=>by
  have X6:=X5.next S6 C.nt F6 m_ ex (by k_extra "z")
  have AW:Ls g6 sa vs:=((hl.up S).up i4).up S6
  have NP:=kb.up S6
  have Jk:=ks.up S6
  have Ub:=kn.up S6
  have Uc:=kw.up S6
  have N6:=N.up S6
  have Wd:=T6
  refine aA C F6 (by k_extra "a") λm7 h7 F7 M7=>?_
  refine gE.go ?_
  refine ab λQ2 iZ=>?_
  refine aH C F7 (by k_extra "a") (Px.pairs C X6.gd (by k_extra "a") (by k_extra "a") (Px.qZ (Px.cell C (by k_extra "a") Jk) AW) (Px.from (xs:=vs) (i:=1) (Px.qZ (Px.cell C (by k_extra "a") Jk) AW) (Px.lu rfl) (by k_extra "z")) hi (wK hi) (by k_extra "z") (by k_extra "R") (by k_extra "R") (by k_extra "R") (by k_extra "R") (by k_extra "R")) (λv8 m8 g8 h8 S8 F8 q8 M8=>?_) (by k_extra "R")
  refine fv q8 λUd Qt ak Ue Qu=>?_
  clear q8
  obtain rfl:=ak
  refine iZ.go ?_
  refine ab λQ3 lZ=>?_
  have X8:=X6.lf S8
  have P8:Ps m8 [(U "points",.ref pa),(U "told",.int (z:Int) t),(U "pairs",.ref Ud)]:=.cons (by k_extra "w") (.cons (by k_extra "w") (.cons (by k_extra "w") (.nil _)))
  have Qw:=wJ (B:=b.B) (is:=is) λi hi=>let⟨r,e,_⟩:=wM i hi;⟨r,e⟩
  have HR:=Qu.len
  have Ju:Qt.length=is.length-1:=by refine HR.symm▸?_;simp
  clear M7 M8 F7 F6
  refine uO F8 (Pb.cmp (Px.DM (λq=>!(aR b.B q.1==aR b.B q.2)) C (gs':=[]) (by k_extra "v") Ue Qu (cl:=[(U "bank",Γ.L+1+3)]) (by simp) (by refine hE.symm▸?_;k_extra "R") (by kernel_rfl) (by k_extra "z") λq v qA mc lc gc hq Cc Mc pv hM Sc=>by
   obtain⟨a,ha,c,hc,rfl⟩:=wL hq
   refine aU (wM a ha) λr1 e1 ζ=>?_
   refine aU (wM c hc) λr2 e2 ζ=>?_
   have O7:=ex.get e1
   have O8:=ex.get e2
   have Xc:=(X8.lf Sc).more hM
   have ee:(!(aR b.B (((a:Int),(c:Int)):Int×Int).1==aR b.B (((a:Int),(c:Int)):Int×Int).2))=bM .NotEq r1.2.2.1 r2.2.2.1:=by
    show(!(aR b.B (a:Int)==aR b.B (c:Int)))=_
    refine(dc e1).symm▸(dc e2).symm▸?_;rfl
   refine ee.symm▸?_
   exact Pb.cmp (Px.jm Cc Xc.gd (Px.cell Cc (v:=.ref W.k.self) .hd (NP.up (S8.trans Sc))) (Mt.fW Xc.bf (by k_extra "a")) (by k_extra "R") (by k_extra "R") (Pa.cons (s:=.i (a:Int)) (Px.part (Px.Bv (Px.local Cc .hd Mc) pv) Px.int (.inl ⟨rfl,rfl⟩) (by intro _ _;k_extra "R")) Pa.nil (by k_extra "R")) (uY Xc.bf (Cc.rm.less (by decide)) O7) (by k_extra "R") (by k_extra "R"))
    (Px.jm Cc Xc.gd (Px.cell Cc (v:=.ref W.k.self) .hd (NP.up (S8.trans Sc))) (Mt.fW Xc.bf (by k_extra "a")) (by k_extra "R") (by k_extra "R") (Pa.cons (s:=.i (c:Int)) (Px.part (Px.Bv (Px.local Cc .hd Mc) pv) Px.int (.inr ⟨rfl,rfl⟩) (by intro _ _;k_extra "R")) Pa.nil (by k_extra "R")) (uY Xc.bf (Cc.rm.less (by decide)) O8) (by k_extra "R") (by k_extra "R")) (Kc.int (by k_extra "R")) (by k_extra "R")) (Px.B5 (by k_extra "R")) (Kc.Jj (C.rm.less (by decide))) (by k_extra "R")) λg9 h9 S9 F9=>?_
  have Qx:True->Sub g g9:=λζ=>by k_extra "q"
  by_cases hs:bI b.B is (is.length-1)
  ·have ro:d6 b.B b'.B op sw is z:=by
    rcases pr with⟨_,q⟩|⟨q,_⟩
    ·exact q
    ·exact absurd hs q
   refine(Qw.mp hs).symm▸?_
   refine aB (lZ.go ?_)
   refine ab λQ4 l7=>?_
   refine fF (ro.row sg X6.e0) λrz ez Ug IJ=>?_
   refine aN F9 (by k_extra "b") (by simp[bM,Ug];lia) λj7 oE ft fC=>?_
   refine aB (l7.go ?_)
   refine ab λQ5 q_=>?_
   have Fq:=(X8.lf S9).lf ft
   have Uh:aM j7 (lq "_law_compared_right") aI:=T6.up (S8.trans (S9.trans ft))
   have NQ:True->Sub g j7:=λζ=>(Qx trivial).trans ft
   have rest:∀(b2:BS) iU nh,b2.B=b'.B->Sub j7 iU->Fv Γ iU m8 (b2.l W.k++(821,Tb aI)::(Γ.L+1+4,Ce none)::lr) nh->Wf W b2 (b2.l W.k++(821,Tb aI)::(Γ.L+1+4,Ce none)::lr) iU->Q5 .next nh:=λb2 iU nh eB iE iA i5=>q_.go (by
    refine ab λQ6 wm=>?_
    have qF:Ext b.B b2.B:=by refine eB.symm▸?_;exact ex
    have ln2:b2.B.length<=b.B.length+4:=by refine eB.symm▸?_;exact ln
    have Ui:d6 b.B b2.B op sw is z:=by refine eB.symm▸?_;exact ro
    have Jv:True->Sub g6 iU:=λζ=>S8.trans (S9.trans (ft.trans iE))
    have Sb:True->Sub g iU:=λζ=>(NQ trivial).trans iE
    have NR:=Uh.up iE
    have perm:∀u,List.Perm (b2.l W.k++(821,Tb aI)::(Γ.L+1+4,Ce u)::lr) ((Γ.L+1+4,Ce u)::(b2.l W.k++(821,Tb aI)::lr)):=λu=>(List.Perm.append_left _ (.swap ..)).trans List.perm_middle
    have Uj:=NP.up (Jv trivial)
    have NS:=Jk.up (Jv trivial)
    have NU:=Ub.up (Jv trivial)
    have Jw:=Uc.up (Jv trivial)
    have Fu:=AW.up (Jv trivial)
    have NV:True->aM iU (lq "_law_compared_right") aI:=λζ=>NR
    refine Cv (pc:=Γ.L+1+4) (kvs:=[(U "told",.int (z:Int) t)]) C (iA.perm (perm none)) (Px.local C (v:=.ref pa) (by k_extra "a") (by k_extra "w")) (Z.ls.up (Sb trivial)) (by k_extra "a") (.cons (by k_extra "w") (.nil _)) (λn v uW jP wF c Qb hv dh dY DE Uk kr=>?_) λuW jP wF u dh dY DE=>?_
    ·refine fv ((Z.lf ((Sb trivial).trans dh)).get hv) λp Ky ak Pp ok=>?_
     obtain rfl:=ak
     refine aU (qQ λi hi=>(ht i hi).elim λs q=>q.2.worth Ky ok) λqs NW NX=>?_
     have We:=wI sg i5.e0 Ui h4 NW NX
     have l8:Wf W b2 (c::(Γ.L+1+4,Ce (some (.ref p)))::(b2.l W.k++(821,Tb aI)::lr)) jP:=by
      have y:=i5.lf dh
      exact⟨y.wo,y.d4,y.vY,y.fn,y.qw,y.sn,y.bk,λζ hz=>.tail _ (.tail _ (List.mem_append_left _ hz)),y.len,y.e0⟩
     have NY:qs.length<=4:=by k_extra "z"
     refine ab λQ7 mW=>?_
     refine dj (qs.map λq=>some (.p (.inr q))) C dY (xs:=vs) (gs':=[U "_law_worth"]) (Px.qZ (Px.cell C (by k_extra "a") (NS.up dh)) (Fu.up dh)) (by k_extra "a") (cl:=[(U "world",Γ.L+1),(U "point",Γ.L+1+4)]) (by simp) (by refine hE.symm▸?_;k_extra "R") (by refine hE.symm▸?_;k_extra "R") (by kernel_rfl) (by k_extra "z") (by simp;lia) (λi v qA mc lc jz hv Cc Mc hM bP=>?_) λD ys jz o4 IZ bP eD hD ar Fz=>?_
     ·refine dm (cw hi i v hv) λj tj hj ak=>?_
      obtain rfl:=ak
      refine aP (⟨_,List.getElem?_eq_getElem (by refine NW.symm▸?_;exact(List.getElem?_eq_some_iff.mp hj).1)⟩:∃q,qs[i]? =some q) λq hq=>?_
      have wt:=(NX i j q hj hq).ext qF
      have uZ:=(l8.lf bP).more hM
      have Wg:(Γ.L+1+4,Ce (some (.ref p)))∈lc:=hM _ (.tail _ (.head _))
      have Wh:=Jw.up (dh.trans bP)
      have Wi:=Pp.up bP
      exact⟨_,by rw[List.getElem?_map,hq];rfl,.yes we.nil (by k_extra "v") rfl⟩
     ·have rq:=Cy ar
      have uZ:=l8.lf bP
      have Ul:=DE.st Fz (by kernel_rfl)
      have Jx:IZ (U "worths")=some (.ref D):=Fz.hd
      have uL:=rq.len
      refine mW.go ?_
      refine ab λQ8 uQ=>?_
      refine lX (xs:=ys) (ys:=ys.drop 1) (gs':=[U "_law_stands"]) C eD uZ.gd hB (by k_extra "a") (Px.qZ (Px.local C (v:=.ref D) (by k_extra "a") Jx) hD) (Px.from (xs:=ys) (i:=1) (Px.qZ (Px.local C (v:=.ref D) (by k_extra "a") Jx) hD) (Px.lu rfl) (by k_extra "z")) (by k_extra "a") (cl:=[(U "sign",Γ.L+1+1)]) (by simp) (by refine hE.symm▸?_;k_extra "R") (by refine hE.symm▸?_;k_extra "R") (by kernel_rfl)
       (λi us g l=>l=c::(Γ.L+1+4,Ce (some (.ref p)))::(b2.l W.k++(821,Tb aI)::lr)/\Sub jz g/\us=((d8 nm qs).take i).map .bool) (λζ ζ=>False) (λi us g l q=>?_) (λi us g g' l S q=>⟨q.1,q.2.1.trans S,q.2.2⟩) ⟨rfl,Sub.refl _,rfl⟩ ?_ ?_ (λζ ζ ζ ζ ζ ζ ζ q=>q.elim) (by k_extra "R") (by k_extra "R") (by k_extra "R") (by intro _;k_extra "R")
      ·refine q.2.2.symm▸(List.length_map ..).symm▸?_
       exact Nat.le_trans (List.length_take_le' i (d8 nm qs)) (a4 (jE nm qs) (Nat.le_trans NY (by decide)))
      ·rintro i v1 v2 us AV l zY cs C' oL TO oT cB e1 e2 ⟨rfl,dy,NZ⟩ hv hc ao Wj mB
       replace e2:=(Nat.add_comm 1 i)▸List.getElem?_drop▸e2
       obtain⟨⟨qa,qb⟩,ep,Um⟩:=rq.at i v1 e1
       obtain⟨⟨qc,qd⟩,eq,PQ⟩:=rq.at (i+1) v2 e2
       refine jH (Um.up dy.aj:aD AV v1 (.inr (qa,qb))) λa1 ta tb ak HQ=>?_
       obtain rfl:=ak
       refine jH (PQ.up dy.aj:aD AV v2 (.inr (qc,qd))) λa2 tc td ak Un=>?_
       obtain rfl:=ak
       have rat:∀n q,qs[n]? =some q->aK 20000000 q:=λn q h=>(NX n _ q (List.getElem?_eq_getElem (by refine NW▸?_;exact(List.getElem?_eq_some_iff.mp h).1)) h).rat (by k_extra "z")
       have r1:=rat i _ ep
       have r2:=rat (i+1) _ eq
       have hG:=uZ.gd.up dy
       have Uo:=NU.up (dh.trans (bP.trans dy))
       have hr:Rm Γ.A 20:=C.rm
       k_extra "T"
       refine Wp.call (zA (n:=20000000) (by cases sg <;> simp[zz]) (hr.less (by decide)) (hG.up mB.keep) (HQ.up mB.keep.aj) (Un.up mB.keep.aj) r1.1 r1.2.1 r2.1 r2.2.1 (by decide) λH0 st=>?_)
       obtain⟨FN,Jy,DN⟩:=Fx.aJ mB st
       refine⟨FN,_,DN,Jy,rfl,dy.trans Jy,?_⟩
       refine NZ.symm▸(take_snoc (qP ep eq)).symm▸List.map_append.symm▸?_;rfl
      ·rintro D2 us AV FN l H0 NH ⟨rfl,dy,NZ⟩ Cz DN Qy
       obtain⟨NJ,jU,N0,DO⟩:=Fx.freeze DN
       have N1:us=(d8 nm qs).map .bool:=by refine NZ.symm▸?_;rw[List.take_of_length_le];refine(jE ..).symm▸List.length_drop.symm▸uL.symm▸?_;exact Nat.le_of_eq (Nat.min_eq_right (Nat.sub_le _ _)).symm
       replace N0:=N1▸N0
       have Wl:=uZ.lf (dy.trans (Cz.trans jU))
       have Qm:=Ul.st Qy (by kernel_rfl)
       have N2:NH (U "due")=some (.ref D2):=Qy.hd
       have Up:=Pp.up (bP.trans (dy.trans (Cz.trans jU)))
       have Uq:=Jw.up (dh.trans (bP.trans (dy.trans (Cz.trans jU))))
       refine uQ.go ?_
       refine ab λQ9 zO=>?_
       refine aN DO (Pb.cmp (Px.mono (s:=.p (.inl ((d8 nm qs).all id))) (t:=.v (.bool ((d8 nm qs).all id))) (by k_extra "v") λζ ζ ζ q=>q) (Px.cmp Px.bool (Px.local C (v:=.ref D2) (by k_extra "a") N2) (Kc.uP (C.rm.less (by decide)) N0) (by k_extra "R")) Kc.Ez (by k_extra "R")) (by simp) λJn Jo mf DP=>?_
       refine aB (zO.go (aB ?_))
       exact Uk NH Jn Jo (bP.trans (dy.trans (Cz.trans (jU.trans mf)))) DP Qm
    ·refine wm.go ?_
     refine ab λQ7 mW=>?_
     refine bR dY Px.bool λv jz o4 bP eD q=>?_
     obtain rfl:v= .bool true:=q
     refine mW.ret (ah ?_)
     have uZ:=(i5.lf dh).lf bP
     exact fin2 b2 aI u jz uW o4 ((Sb trivial).trans (dh.trans bP)) (eD.perm (perm u).symm) ((NV trivial).up (dh.trans bP)) ⟨uZ.wo,uZ.d4,uZ.vY,uZ.fn,uZ.qw,uZ.sn,uZ.bk,λζ hc=>List.mem_append_left _ hc,uZ.len,uZ.e0⟩ qF (by k_extra "z"))
   obtain⟨i0,t0,IC,J5⟩:∃i0 t0,is[0]? =some i0/\vs[(0:Int).toNat]? =some (.int ((i0:Nat):Int) t0):=by
    have lS:0<vs.length:=by refine wZ.symm▸?_;exact List.length_pos_iff.mpr h0
    refine dm (cw hi 0 vs[0] (by simp[lS])) λi0 t0 e1 e2=>?_
    exact⟨i0,t0,e1,by simp[lS,e2]⟩
   refine ve (jc (Pb.go (b:=bM .Eq (Qt.length:Int) 1) (by k_extra "b") _ _ j7 oE (Sub.refl _) fC λga ha Sa Fa=>?_))
   by_cases h2:is.length=2
   ·obtain⟨a,c,rfl⟩:∃a c,is=[a,c]:=by
     rcases is with _|⟨a,_|⟨c,_|⟨d,_⟩⟩⟩ <;> simp at h2
     exact⟨a,c,rfl⟩
    obtain⟨i1,ta,e1,Qz⟩:∃i0 t0,[a,c][1]? =some i0/\vs[(1:Int).toNat]? =some (.int ((i0:Nat):Int) t0):=by
     have lS:1<vs.length:=by refine wZ.symm▸?_;exact Nat.lt_succ_self _
     refine dm (cw hi 1 vs[1] (by simp[lS])) λi0 t0 e1 e2=>?_
     exact⟨i0,t0,e1,by simp[lS,e2]⟩
    replace J5:=(show i0=a from (Option.some.inj IC).symm)▸J5
    replace Qz:=(show i1=c from (Option.some.inj e1).symm)▸Qz
    rw[if_pos (by simp[bM,Ju])]
    have Xa:=Fq.lf Sa
    refine jc (c5 (di C Fa Xa.gd (f:=710) (Px.cell C (v:=.ref rb) (by k_extra "a") (by k_extra "u")) (λv gc Sc q=>⟨rb,q,Mt.eO (Xa.gd.up Sc) (N6.up (by k_extra "q")) (by k_extra "a") rfl⟩) (by k_extra "R") (by k_extra "R")
     (Pa.cons (s:=.v (.str nm tn)) (by k_extra "v") (Pa.cons (s:=.v (.int (a:Int) t0)) (by k_extra "v") (Pa.cons (s:=.v (.int (c:Int) ta)) (by k_extra "v") Pa.nil (by k_extra "R")) (by k_extra "R")) (by k_extra "R")) (λgc hc Sc Fc=>?_) (by k_extra "R") (by k_extra "R")) (by k_extra "R"))
    have Xc:=Xa.lf Sc
    have B_:Fx Γ.ρ gc Γ.L m8 (b'.l W.k++(821,Tb aI)::(Γ.L+1+4,Ce none)::lr) hc:=Fc
    obtain⟨oL,G4,eL,x4,S4⟩:=Fx.BF (l₀:=[]) B_
    obtain⟨G5,x5,MH⟩:=Gr.front (l:=b'.l W.k) x4
    have zX:=S4.trans MH
    refine aU (wM a List.mem_cons_self) λra era Ur=>?_
    refine aU (wM c (.tail _ (.head _))) λrc QA Us=>?_
    have pL:=hs 0 (by simp) a c ra rc rfl rfl era QA
    refine Wp.call (jS (b:=b') (nt:=rb) sg x5 (hB.ao B_ eL) (Xc.gd.up zX) ((N6.up (S8.trans (S9.trans (ft.trans (Sa.trans Sc))))).up zX) (Xc.wo.inst.up zX) X.d4 (Xc.sf.lf zX) (Xc.bk.lf zX) (C.rm.less (by decide)) (by k_extra "z") (ex.get era) (ex.get QA) Ur Us ⟨λku o t2 b2 g2 hd2 st y Sy DA mk=>?_,λip=>?_⟩)
    ·refine i_ (Mk.again (B:=b'.B) (by obtain⟨C',e⟩:=X6.e0;refine e.symm▸?_;simp[bC]) (by refine Xc.bk.same▸?_;exact Xc.bk.nd) (.inl ⟨rfl,ro.one,by lia⟩) mk) λeo eB=>?_
     subst eo
     have i7:=Step.front x4 (l':=b2.l W.k) st
     obtain⟨gd,Sd,Fd⟩:=Fx.jr (l₀:=[]) B_ eL i7
     have Xd:=Xc.next Sd C.nt Fd (DA.lf y.sub) (by refine eB.symm▸?_;exact .refl _) (by refine eB.symm▸?_;k_extra "z")
     refine Px.go (by k_extra "v":Px Γ m8 (b2.l W.k++(821,Tb aI)::(Γ.L+1+4,Ce none)::lr) gd _ (.i (o:Int))) _ _ gd hd2 (Sub.refl _) Fd λv ge Dj Se Fe q=>?_
     refine aP q λt3 ak=>?_
     clear q
     obtain rfl:=ak
     refine Ba (bu ?_)
     refine bL (by simp) ?_
     exact uo (aB (rest b2 ge Dj eB (Sa.trans (Sc.trans (Sd.trans Se))) Fe (Xd.lf Se)))
    ·exact absurd (by cases sw <;> first|exact pL|exact pL.symm) ip
   ·refine bL (by simp[bM,Ju];lia) ?_
    exact uo (aB (rest b' ga ha rfl Sa Fa (Fq.lf Sa)))
  ·obtain rfl:z=0:=by
    rcases pr with⟨q,_⟩|⟨_,q⟩
    ·exact absurd q hs
    ·exact q
   have he:(((bA is).zip ((bA is).drop 1)).filter λq=>!(aR b.B q.1==aR b.B q.2)).isEmpty=false:=by
    cases h:(((bA is).zip ((bA is).drop 1)).filter λq=>!(aR b.B q.1==aR b.B q.2)) with
    |nil=>exact absurd (Qw.mpr h) hs
    |cons _ _=>rfl
   refine he.symm▸?_
   refine ab λQ4 l7=>?_
   refine bR F9 (by k_extra "v") λv j7 oE ft fC q=>?_
   obtain rfl:v= .bool true:=q
   refine l7.ret (lZ.ret (ah ?_))
   exact fin2 b' aI none j7 m8 oE ((Qx trivial).trans ft) fC (T6.up (S8.trans (S9.trans ft))) ((X8.lf S9).lf ft) ex (by k_extra "z")
 refine i3 (n:=10) (qual:=lq "_law_compared_right") (T:=821) (ps:=ps) (l':=λaI=>b.l W.k++(821,Tb aI)::(Γ.L+1+4,Ce none)::lr) (P:=λaI=>tU W.k ((821,Tb aI)::(Γ.L+1+4,Ce none)::lr) λj b'=>bI b.B is (is.length-1)/\d6 b.B b'.B op sw is j) (B:=λaI=>mE W.k ((821,Tb aI)::(Γ.L+1+4,Ce none)::lr) λb'=>¬bI b.B is (is.length-1)/\Ext b.B b'.B/\b'.B.length<=b.B.length+3)
  C F5 X5.gd hB (by k_extra "a") (by decide) (by rw[hE];k_extra "R") (by k_extra "R") (by rw[hE];rfl) (Cw X5.gd) (by decide) (by decide) (λaI=>dA.app _) ((hT.up S).up i4) (by rw[hE];k_extra "R") (λf c' pm ek aI g6 S6 hf hc=>?_) (λaI l' h h' q t=>q.up t) (λv aI l6 g6 h6 S6 T6 F6 q6=>?_) (λt aI l6 g6 h6 S6 T6 F6 q6=>?_) (by k_extra "R") (by k_extra "R")
 ·exact Ag (nt:=rb) (sn:=W.sn) sg (X5.gd.up S6) hf hc (by rfl) (by kernel_rfl) rfl (λFp m2 l2 gW=>Px.free (c:=Γ.L+1+5) (by refine gW.symm▸?_;rfl) (by refine gW.symm▸?_;k_extra "R") (by decide +kernel) (by refine gW.symm▸?_;k_extra "R") (kg.up S6)) (N.up S6)
   (λFp m2 l2 gW C2=>⟨Px.free (c:=Γ.L+1+1) (by refine gW.symm▸?_;rfl) (by refine gW.symm▸?_;k_extra "R") (by decide +kernel) (by refine gW.symm▸?_;k_extra "R") (kn.up S6),Px.qZ (Px.free (c:=Γ.L+1+2) (by refine gW.symm▸?_;rfl) (by refine gW.symm▸?_;k_extra "R") (by decide +kernel) (by refine gW.symm▸?_;k_extra "R") (ks.up S6)) (((hl.up S).up i4).up S6)⟩) (X5.wo.inst.up S6) X.d4 (X5.sf.lf S6) AO (X5.bk.lf S6) (by k_extra "z") hi h0 h4 wM (λζ=>⟨_,rfl⟩) (λζ=>rfl) (λζ=>rfl)
 ·refine q6.go F6 λj tj b' ev F6 m_ pr=>?_
  subst ev
  exact fin j tj b' aI g6 h6 S6 T6 F6 m_ (.inl pr) pr.2.ext.1 (by have:=pr.2.ext.2;k_extra "z")
 ·exact q6.go F6 λb' F6 m_ pr=>fin 0 t b' aI g6 h6 S6 T6 F6 m_ (.inr ⟨pr.1,rfl⟩) pr.2.1 (by have:=pr.2.2;k_extra "z")
end
section
variable{A:Around}{E:Value->Heap->Prop}{h g:Heap}{R:Result->Heap->Prop}{ρ:List (Addr×Obj)}{L:Addr}{m:Str->Option Value}{l:List Cell}{env:Env}
noncomputable abbrev An:Obj:={cls:=.type "dict",data:=.dict #[]}
theorem oO{p:Obj->Prop}{pos:Pos}{Q:Value->Heap->Prop}(F:Fx ρ g L m l h)(hp:p An)(nt:∀o,p o->isTup o=false)(k:∀a h',a=h.objs.size->Fx ρ g L m ((a,p)::l) h'->Q (.ref a) h'):Wp A (eval (.Dict [] [] pos) env) Q E h:=
 .of λgg d kk o Q' E' hQ hE=>wpAny_Dict_empty (hQ _ _ _ (k _ _ rfl (F.push An hp nt)))
theorem QB:Dk [] An:=⟨⟨rfl,rfl,rfl⟩,#[],0,rfl,rfl⟩
theorem Sub.at{a:Addr}{o:Obj}{g h:Heap}(e:g.get? a=some o)(s:Sub g h):h.get? a=some o:=s _ _ e
theorem il{x dx:Addr}{name:Str}{v:Value}{al:List (Str×Value)}{l':List Cell}{Q:Unit->Heap->Prop}(G:Gd h)(F:Fx ρ g L m l h)(JW:h.get? x=some (instObj 638 dx))(hn:Gs jj name)(up:dA dx (So w.params al) (So w.params (bW name v al)) l l')(hz:al.length<=900)(k:∀h',Fx ρ g L m l' h'->Q () h'):Wp A (setAttr (.ref x) name v) Q E h:=by
 refine dm up.split λl₀ l₁ ak iO=>?_
 obtain rfl:=ak
 obtain rfl:=iO
 exact mJ G F JW lE (by decide) (a_ (mH w.params) _ hn.mem) hz k
structure Mb where
 x:Addr
 sn:Addr
 sw:Addr
 fn:Addr
 fa:Addr
 fr:Addr
 tf:Tok
 ops:Addr
 args:Addr
 sorts:Addr
 ae:Addr
 nums:Addr
noncomputable def Mb.al(b:Mb)(ex:List (Str×Value)):List (Str×Value):=(U "sort_names",.ref b.sn)::(U "sort_widths",.ref b.sw)::(U "fun_names",.ref b.fn)::(U "fun_args",.ref b.fa)::(U "fun_results",.ref b.fr)::(U "fresh_count",.int 0 b.tf)::(U "term_ops",.ref b.ops)::(U "term_args",.ref b.args)::(U "term_sorts",.ref b.sorts)::(U "term_datas",.ref b.ae)::(U "numbers",.ref b.nums)::ex
noncomputable def Mb.k(b:Mb)(ex:List (Str×Value)):dg:=⟨b.x,b.ops,b.args,b.sorts,b.ae,b.nums,b.al ex⟩
theorem Mb.put(b:Mb):bW (U "numbers") (.ref b.nums) (bW (U "term_datas") (.ref b.ae) (bW (U "term_sorts") (.ref b.sorts) (bW (U "term_args") (.ref b.args) (bW (U "term_ops") (.ref b.ops) (bW (U "fresh_count") (.int 0 b.tf) (bW (U "fun_results") (.ref b.fr) (bW (U "fun_args") (.ref b.fa) (bW (U "fun_names") (.ref b.fn) (bW (U "sort_widths") (.ref b.sw) (bW (U "sort_names") (.ref b.sn) []))))))))))=b.al []:=by kernel_rfl
theorem Mb.N3(b:Mb)(v:Value):bW (U "true_number") v (b.al [])=b.al [(U "true_number",v)]:=by kernel_rfl
theorem Mb.put2(b:Mb)(u v:Value):bW (U "false_number") v (b.al [(U "true_number",u)])=b.al [(U "true_number",u),(U "false_number",v)]:=by kernel_rfl
theorem Mb.put3(b:Mb)(u v z:Value):bW (U "bv_numbers") z (b.al [(U "true_number",u),(U "false_number",v)])=b.al [(U "true_number",u),(U "false_number",v),(U "bv_numbers",z)]:=by kernel_rfl
theorem Mb.d4{b:Mb}{ex:List (Str×Value)}(h:2<=b.nums)(he:ei.map (λp=>(b.al ex).lookup p.1)=ei.map λζ=>none):dS (b.k ex):=⟨rfl,rfl,rfl,rfl,rfl,h,λp hp=>a_ he p hp⟩
theorem Mb.N7{b:Mb}(h:2<=b.nums):dS (b.k []):=Mb.d4 h (by kernel_rfl)
theorem Mb.N8{b:Mb}{u:Value}(h:2<=b.nums):dS (b.k [(U "true_number",u)]):=Mb.d4 h (by kernel_rfl)
theorem Mb.Jz{b:Mb}{u v z:Value}(h:2<=b.nums):dS (b.k [(U "true_number",u),(U "false_number",v),(U "bv_numbers",z)]):=Mb.d4 h (by kernel_rfl)
theorem Fx.FP{l₀:List Cell}(F:Fx ρ g L m (l₀++l) h):∃G,Gr [] G h l/\Sub g G/\∀a p,(a,p)∈l₀->Gt G a p:=by
 obtain⟨G,x,s⟩:=Fx.gr (l₀:=l₀) (l:=l) (l₁:=[]) (by rw[List.append_nil];exact F)
 refine⟨G,x,s,λa p hm=>?_⟩
 obtain⟨o,e,po⟩:=F.get (List.mem_append_left _ hm)
 have nd:=F.own.nd
 replace nd:=aq▸nd
 exact⟨o,x.max _ _ e (λq=>(List.nodup_append.mp nd).2.2 _ (ax hm) _ q rfl) (λq=>nomatch q),po⟩
noncomputable abbrev Kz(t0 t1 t2:Tok):List Value:=[.str (U "Bool") t0,.str (U "Int") t1,.str (U "Real") t2]
noncomputable def Mb.cells(b:Mb)(dx:Addr)(t0 t1 t2:Tok)(ex:List (Str×Value)):List Cell:=[(dx,So w.params (b.al ex)),(b.sn,Lo (Kz t0 t1 t2)),(b.fn,Lo []),(b.fa,Lo []),(b.fr,Lo [])]
theorem Mb.inst{b:Mb}{dx:Addr}{t0 t1 t2:Tok}{ex:List (Str×Value)}(e:h.get? b.x=some (instObj 638 dx))(c:∀a p,(a,p)∈b.cells dx t0 t1 t2 ex->Gt h a p):In w.params h b.x 638 (b.al ex):=by
 obtain⟨o,eo,po⟩:=c _ _ (.head _)
 exact⟨dx,_,o,e,lE,eo,po⟩
theorem u3{b:Mb}{name op:Str}{p1 p2 p3 p4 p5 p6 p7 p8 p9 FQ:Pos}{k1 k2 k3:Nat}{dx:Addr}{t0 t1 t2:Tok}{ex:List (Str×Value)}{B:List Row}{ops args sorts ae:List Value}{xs:List (Row×Addr×Value)}{Q:Flow->Heap->Prop}(O:Ev env L [U "self"] [U "BOOL"])(hr:Rm A 1)(G:Gd g)(e:g.get? b.x=some (instObj 638 dx))(At:dS (b.k ex))(hz:B.length<=5000)(ok:PyData.strOk op=true)(hn:Gs jj name)(hex:ex.length<=5)(N':∀v,bW name v (b.al ex)=b.al (ex++[(name,v)]))
  (F:Fx [] g L (mv [U "self"] [some (.ref b.x)]) (b.cells dx t0 t1 t2 ex++Bl (b.k ex) ops args sorts ae xs) h)(bk:Bk (b.k ex) B ops args sorts ae xs g)
  (k:∀(i:Nat) t B' av ai af ag aO g' h',Sub g g'->Fx [] g' L (mv [U "self"] [some (.ref b.x)]) (b.cells dx t0 t1 t2 (ex++[(name,.int (i:Int) t)])++Bl (b.k ex) av ai af ag aO) h'->Bk (b.k ex) B' av ai af ag aO g'->Mk B (op,[],0,.inl 0) i B'->Q .next h')
  (hs:swapsWith (.Call (.Attribute (.Name (U "self") p3) (U "make") p4) [.Constant (.str op) k1 p5,.Tuple [] k2 p6,.Name (U "BOOL") p7,.Constant (.int 0) k3 p8] [] p9) (some (.Attribute (.Name (U "self") p1) name p2)) FQ.line env=pure false){pl:Sem Bool}
  (he:eval (.Call (.Attribute (.Name (U "self") p3) (U "make") p4) [.Constant (.str op) k1 p5,.Tuple [] k2 p6,.Name (U "BOOL") p7,.Constant (.int 0) k3 p8] [] p9) env=(do
   let ov <-eval (.Name (U "self") p3) env
   standAt p4.atName
   let(f,first) <-holding [ov] (getMethod ov (U "make") pl)
   callWith p9 f first (backTo p9 (starEach [.Constant (.str op) k1 p5,.Tuple [] k2 p6,.Name (U "BOOL") p7,.Constant (.int 0) k3 p8] env)) [])):
  Wp A (exec (.Assign [.Attribute (.Name (U "self") p1) name p2] (.Call (.Attribute (.Name (U "self") p3) (U "make") p4) [.Constant (.str op) k1 p5,.Tuple [] k2 p6,.Name (U "BOOL") p7,.Constant (.int 0) k3 p8] [] p9) FQ) env) Q E h:=by
 refine aE (dH ?_ he) hs
 k_extra "l"
 refine vC (k:=b.k ex) (name:=U "make") (f:=259) At (G.up F.keep) (Mb.inst (F.keep _ _ e) λa p hm=>F.get (List.mem_append_left _ hm)) (Kv.mem (by k_extra "a")) ?_
 k_extra "l"
 refine fF (Fx.FP (l₀:=b.cells dx t0 t1 t2 ex) (by k_extra "s")) λG4 x4 S4 c4=>?_
 refine Wp.call (fo (k:=b.k ex) (d:=.inl 0) (is:=[]) x4 (by k_extra "u") (Mb.inst (Sub.at e (by k_extra "q")) c4) At (by k_extra "u") hr hz ok ⟨_,_,rfl,by k_extra "u",.nil⟩ ⟨_,rfl⟩ λi t B' av ai af ag aO h' st b' mk=>?_)
 obtain⟨g5,S5,F5⟩:=Fx.ll (l₀:=b.cells dx t0 t1 t2 ex) (by k_extra "s") st
 k_extra "l"
 refine il (by k_extra "u") F5 (F5.keep _ _ (Sub.at e (by k_extra "q"))) hn .hd (by unfold Mb.al;simp;k_extra "z") λh6 F6=>?_
 replace F6:=(N' ..)▸F6
 exact k i t B' av ai af ag aO g5 h6 (by k_extra "q") F6 (b'.up F5.aj) mk
noncomputable abbrev oQ:Row:=(U "true",[],0,.inl 0)
noncomputable abbrev t_:Row:=(U "false",[],0,.inl 0)
theorem CA{i:Nat}{B':List Row}(m:Mk [ik] (U "true",[],0,.inl 0) i B'):i=1/\B'=[ik,oQ]:=by
 rcases m with⟨rfl,e,h⟩|⟨_,rfl,rfl⟩
 ·have:=(List.getElem?_eq_some_iff.mp e).1
  simp at this;lia
 ·exact⟨rfl,rfl⟩
theorem CB{i:Nat}{B':List Row}(m:Mk [ik,oQ] (U "false",[],0,.inl 0) i B'):i=2/\B'=[ik,oQ,t_]:=by
 rcases m with⟨rfl,e,h⟩|⟨_,rfl,rfl⟩
 ·have h2:=(List.getElem?_eq_some_iff.mp e).1
  obtain rfl:i=1:=by simp at h2;lia
  have:(U "true":Str)=U "false":=congrArg (·.1) (Option.some.inj e)
  exact absurd this (by decide +kernel)
 ·exact⟨rfl,rfl⟩
inductive iD(dx x:Addr)(ex:List (Str×Value))(B:List Row)(g:Heap):Mb->List Cell->Prop
 |mk (b:Mb) (t0 t1 t2:Tok) (ops args sorts ae:List Value) (xs:List (Row×Addr×Value)) (hx:b.x=x) (big:2<=b.nums) (bk:Bk (b.k ex) B ops args sorts ae xs g):iD dx x ex B g b (b.cells dx t0 t1 t2 ex++Bl (b.k ex) ops args sorts ae xs)
theorem iD.up{dx x:Addr}{ex:List (Str×Value)}{B:List Row}{b:Mb}(q:iD dx x ex B g b l)(s:Sub g h):iD dx x ex B h b l:=by
 cases q with|mk t0 t1 t2 ops args sorts ae xs hx big bk=>exact .mk _ t0 t1 t2 ops args sorts ae xs hx big (bk.lf s)
theorem wN{b:Mb}{dx et:Addr}{td to t0 t1 t2 t3 t4 t5:Tok}{Q:Flow->Heap->Prop}(F:Fx [] g L (mv [U "self"] [some (.ref b.x)]) [(b.nums,Dk []),(b.ae,Lo [.int 0 td]),(b.sorts,Lo [vI 0 311]),(b.args,Lo [.ref et]),(b.ops,Lo [.str (U "") to]),(b.fr,Lo []),(b.fa,Lo []),(b.fn,Lo []),(b.sw,Lo [.int 0 t3,.int 0 t4,.int 0 t5]),(b.sn,Lo (Kz t0 t1 t2)),
   (dx,So w.params (bW (U "numbers") (.ref b.nums) (bW (U "term_datas") (.ref b.ae) (bW (U "term_sorts") (.ref b.sorts) (bW (U "term_args") (.ref b.args) (bW (U "term_ops") (.ref b.ops) (bW (U "fresh_count") (.int 0 b.tf) (bW (U "fun_results") (.ref b.fr) (bW (U "fun_args") (.ref b.fa) (bW (U "fun_names") (.ref b.fn) (bW (U "sort_widths") (.ref b.sw) (bW (U "sort_names") (.ref b.sn) []))))))))))))] h)
  (O:Ev env L [U "self"] [U "BOOL"])(hr:Rm A 1)(G:Gd g)(e:g.get? b.x=some (instObj 638 dx))(tp:Tp g et [])(big:2<=b.nums)
  (k:∀u v l' g' h',Sub g g'->Fx [] g' L (mv [U "self"] [some (.ref b.x)]) l' h'->iD dx b.x [(U "true_number",.int 1 u),(U "false_number",.int 2 v)] [ik,oQ,t_] g' b l'->Q .next h'):Wp A (execs ((cD (i7 16 0)).drop 11) env) Q E h:=by
 replace F:=(Mb.put ..)▸F
 obtain⟨g2,S2,ζ,F2⟩:=Fx.weak (l':=[(b.nums,Dk []),(b.ae,Lo [.int 0 td]),(b.sorts,Lo [vI 0 311]),(b.args,Lo [.ref et]),(b.ops,Lo [.str (U "") to]),(b.fr,Lo []),(b.fa,Lo []),(b.fn,Lo []),(b.sn,Lo (Kz t0 t1 t2)),(dx,So w.params (b.al []))]) F
  (List.Sublist.append (l₁:=[(b.nums,Dk []),(b.ae,Lo [.int 0 td]),(b.sorts,Lo [vI 0 311]),(b.args,Lo [.ref et]),(b.ops,Lo [.str (U "") to]),(b.fr,Lo []),(b.fa,Lo []),(b.fn,Lo [])]) (List.Sublist.refl _) (.cons _ (List.Sublist.refl _)))
 have F3:Fx [] g2 L (mv [U "self"] [some (.ref b.x)]) (b.cells dx t0 t1 t2 []++Bl (b.k []) [.str (U "") to] [.ref et] [vI 0 311] [.int 0 td] []) h:=F2.perm (List.reverse_perm _).symm
 have bk:Bk (b.k []) [ik] [.str (U "") to] [.ref et] [vI 0 311] [.int 0 td] [] g2:=⟨.cons ⟨⟨_,rfl⟩,⟨_,_,rfl,tp.up S2.aj,.nil⟩,⟨_,rfl⟩,⟨_,rfl⟩⟩ .nil,(λζ h=>nomatch h),rfl,List.nodup_nil,λj r a v h=>by simp at h⟩
 refine au ?_
 refine u3 O hr (G.up S2) (S2 _ _ e) (Mb.N7 big) (by decide) (by decide +kernel) (by k_extra "a") (by decide) (b.N3) F3 bk (λi t B' av ai af ag aO g3 h3 S3 F4 rf mk=>?_) (by k_extra "R") (by k_extra "R")
 refine i_ (CA mk) λak iO=>?_
 obtain rfl:=ak
 obtain rfl:=iO
 refine au ?_
 refine u3 (ex:=[(U "true_number",.int 1 t)]) O hr ((G.up S2).up S3) (S3 _ _ (S2 _ _ e)) (Mb.N8 big) (by decide) (by decide +kernel) (by k_extra "a") (Nat.le_of_ble_eq_true rfl) (b.put2 _) F4 ⟨rf.rows,rf.keys,rf.same,rf.nd,rf.vals⟩ (λi Ut B' av ai af ag aO g4 h4 S4 F5 FL mk=>?_) (by k_extra "R") (by k_extra "R")
 refine i_ (CB mk) λak iO=>?_
 obtain rfl:=ak
 obtain rfl:=iO
 refine aB (k t Ut _ g4 h4 (S2.trans (S3.trans S4)) F5 (.mk b t0 t1 t2 av ai af ag aO rfl big ⟨FL.rows,FL.keys,FL.same,FL.nd,FL.vals⟩))
theorem qR{x dx:Addr}(X:Gr [] g h [(dx,So w.params [])])(G:Gd g)(e:g.get? x=some (instObj 638 dx))(hA:Rm A 2)
  (K:∀u v b l' h',Step [] [(dx,So w.params [])] h l' h'->iD dx x [(U "true_number",.int 1 u),(U "false_number",.int 2 v)] [ik,oQ,t_] h' b l'->R (.ok (.ret .none)) h'):Cd A (.call (.ref 126) ⟨[.ref x],[]⟩) R h:=by
 refine aw (ps:=[U "self"]) (rest:=[]) (ns:=[U "self"]) (gs:=[U "BOOL"]) (vs:=[some (.ref x)]) (r:=1) X G hA (f9 G) (o9 G) rfl rfl rfl rfl rfl (by decide +kernel) λL g1 h1 env A1 hE bS hr O S F=>?_
 refine au (aE (bV ?_) (by k_extra "R"))
 k_extra "L"
 k_extra "S"
 refine au (aE (bV ?_) (by k_extra "R"))
 k_extra "L"
 k_extra "S"
 refine au (aE (bV ?_) (by k_extra "R"))
 k_extra "L"
 k_extra "S"
 refine au (aE (bV ?_) (by k_extra "R"))
 k_extra "L"
 k_extra "S"
 refine au (aE (bV ?_) (by k_extra "R"))
 k_extra "L"
 k_extra "S"
 refine au (aE ?_ (by k_extra "R"))
 k_extra "l"
 k_extra "S"
 refine au (aE (bV ?_) (by k_extra "R"))
 k_extra "L"
 k_extra "S"
 refine au (aE (bV ?_) (by k_extra "R"))
 k_extra "L"
 k_extra "S"
 refine au (aE (bV ?_) (by k_extra "R"))
 k_extra "L"
 k_extra "S"
 refine au (aE (bV ?_) (by k_extra "R"))
 k_extra "L"
 k_extra "S"
 refine au (aE (oO (p:=Dk []) (by k_extra "s") (QB) Dk.nt λnums h9 JA F9=>?_) (by k_extra "R"))
 k_extra "l"
 k_extra "S"
 refine wN (b:=⟨_,_,_,_,_,_,_,_,_,_,_,_⟩) (by k_extra "s") O hr (by k_extra "u") (Sub.at e (by k_extra "q")) (by k_extra "u") ?_ λu v l' g' h' S' F' q=>?_
 ·show 2<=nums
  refine JA.symm▸?_
  exact Nat.le_of_lt (Nat.lt_of_le_of_lt (show 2<=126 by decide) (Heap.lt_size (Fx.keep (by k_extra "s") _ _ (f9 (by k_extra "u")))))
 ·exact dI (K u v _ l' h' (X.done F' (by k_extra "q")) (q.up F'.keep))
end
section
variable{A:Around}{E:Value->Heap->Prop}{h g:Heap}{R:Result->Heap->Prop}{env:Env}
theorem JB(G:Gd g):Ck g 525 (.ref 638):=⟨rT,G.k 74 rfl,rfl⟩
noncomputable def u4(P:Params):ClassData:=match nu.data with| .cls c=>c|_=>default
theorem ub(P:Params):(clsIn (K P) 638,alongIn (K P) "__init__" (((u4 P).mro.dropWhile (·!=.ref 638)).drop 1),subIn (K P) (.ref 638) (.ref 638),fnIn (K P) 126)=(some (u4 P),some (some (.ref 126)),some true,true):=by kernel_rfl
noncomputable abbrev DS(f x:Addr):Obj:={cls:=.type "method",dict:=none,data:=.fields #[.ref f,.ref x],slots:=#[]}
def FR(f x:Addr):Obj->Prop:=λo=>o=DS f x
theorem FR.nt{f x:Addr}:∀o,FR f x o->isTup o=false:=λo h=>by refine(show o=_ from h).symm▸?_;rfl
theorem ke{x dx:Addr}(X:Gr [] g h [(dx,So w.params [])])(G:Gd g)(e:g.get? x=some (instObj 638 dx))(hA:Rm A 3)
  (K:∀u v z b l' h',Step [] [(dx,So w.params [])] h l' h'->iD dx x [(U "true_number",.int 1 u),(U "false_number",.int 2 v),(U "bv_numbers",z)] [ik,oQ,t_] h' b l'->R (.ok (.ret .none)) h'):Cd A (.call (.ref 537) ⟨[.ref x],[]⟩) R h:=by
 refine qe (ps:=[U "self"]) (rest:=[]) (ns:=[U "self"]) (gs:=[]) (vs:=[some (.ref x)]) (r:=2) X G hA (fA G) (j3 G) rfl rfl rfl rfl rfl (by decide +kernel) λL g1 h1 env A1 hE bS hr O S F=>?_
 have G1:=G.up S
 have bf:=ub w.params
 simp only[Prod.mk.injEq] at bf
 have he:=F.keep _ _ (S _ _ e)
 refine uF ?_
 refine p_ (x:=x) (C:=638) (D:=638) (cl:=525) (f:=537) (cc:=536) (cdD:=u4 w.params) O F G1 (by subst hE;k_extra "R") (by subst hE;k_extra "R") (by decide +kernel) (by subst hE;rfl) (fA G1) rfl rfl (by k_extra "a") (by subst hE;rfl) (G1.k 76 rfl) rfl rfl (by decide +kernel) (by subst hE;rfl) (JB G1) (kQ G1) rfl he rfl (λc q=>by cases q) bf.2.2.1 ?_ (by subst hE;rfl) (by subst hE;rfl) (by subst hE;rfl)
 intro so g2 h2 S2 F2 q2
 obtain⟨RJ,pL,rfl⟩:=F2.get (a:=so) (p:=zc 638 x 638) List.mem_cons_self
 have G2:=(G1.up S2).up F2.keep
 have N_:x≠638:=λq=>by
  have:=kQ (G1.up F.keep)
  replace this:=he▸q.symm▸this
  cases this
 refine .of ?_;intro gg d kk o Q' E' hQ EG
 refine ks_wpAny_getMethod_super (l₀:=(u4 w.params).mro) (f:=126) pL (looks_opaque G2.nR (by kernel_rfl)) (λA Q E s k q=>wpAny_bind ((looks_clsIn G2.nR bf.1) A _ E s k (wpAny_pure q))) rfl G2.nR bf.2.1 (f9 G2) rfl N_ (by decide +kernel) (hQ _ _ _ ?_)
 have F3:=F2.push (DS 126 x) (p:=FR 126 x) rfl FR.nt
 generalize hq:h2.objs.size=q at F3 ⊢
 obtain⟨oq,BD,e1⟩:=F3.get (a:=q) (p:=FR 126 x) List.mem_cons_self
 replace BD:=(show oq=_ from e1)▸BD
 refine qf (keeps_M (K:=Mine.K w.params) (f:=126) bf.2.2.2 _ ⟨BD,((G1.up S2).up F3.keep).nR⟩) ?_
 obtain⟨G4,x4,S4⟩:=Fx.ux (l₀:=[(q,FR 126 x),(so,zc 638 x 638)]) F3
 refine Wp.call (.of λgg d kk o R' hR=>ks_codeAny_call_bound BD ((qR x4 ((G1.up S2).up S4) (S4 _ _ (S2 _ _ (S _ _ e))) (hr.less (by decide)) (R:=_) λu v b l' h5 st ba=>?_).go gg d kk o R' hR))
 obtain⟨g5,S5,F5⟩:=Fx.ll (l₀:=[(q,FR 126 x),(so,zc 638 x 638)]) F3 st
 obtain⟨g6,S6,ζ,F6⟩:=Fx.weak (l':=l') F5 (.cons _ (.cons _ (List.Sublist.refl _)))
 refine Wa.any (au ?_)
 refine aE (oO (p:=Dk []) F6 (QB) Dk.nt λz h7 hz F7=>?_) (by subst hE;k_extra "R")
 k_extra "l"
 cases ba with|mk t0 t1 t2 ops args sorts ae xs hx big bk=>
 refine il ((G1.up (S2.trans (S5.trans S6))).up F7.keep) F7 (F7.keep _ _ (Sub.at e (S.trans (S2.trans (S5.trans S6))))) (by k_extra "a") (.tl .hd) (Nat.le_of_ble_eq_true rfl) λh8 F8=>?_
 replace F8:=(Mb.put3 ..)▸F8
 obtain⟨g9,S9,ζ,F9⟩:=Fx.weak (l':=b.cells dx t0 t1 t2 [(U "true_number",.int 1 u),(U "false_number",.int 2 v),(U "bv_numbers",.ref z)]++Bl (b.k [(U "true_number",.int 1 u),(U "false_number",.int 2 v),(U "bv_numbers",.ref z)]) ops args sorts ae xs) F8 (.cons _ (List.Sublist.refl _))
 have uT:Bk (b.k [(U "true_number",.int 1 u),(U "false_number",.int 2 v),(U "bv_numbers",.ref z)]) [ik,oQ,t_] ops args sorts ae xs h8:=by
  have:=((bk.up F5.aj).lf S6).lf (S9.trans F9.keep)
  exact⟨this.rows,this.keys,this.same,this.nd,this.vals⟩
 exact aB (dI (K u v (.ref z) b _ h8 (X.done F9 (S.trans (S2.trans (S5.trans (S6.trans S9))))) (.mk b t0 t1 t2 ops args sorts ae xs hx big uT)))
end
section
variable{prog:Program}{A:Around}{E:Value->Shared->Prop}{s:Shared}
theorem Ap{t:Addr}{items:Array Value}{Q:Value->Shared->Prop}(ht:s.heap.IsTuple t items)(Uu:(items.size:Int)<2 ^ 63)
  (h:∀k,Q (.int items.size k) {s with toks:=s.toks+1+1}):wpAny (model prog w) A (call (.builtin "len") [.ref t]) Q E s:=by
 obtain⟨o,ho,hc,n,hd⟩:=id ht
 refine call_function_entry PySem.kind_len PySem.plain_len PySem.entry_len (PySem.args_len1 _) ?_
 unfold Builtin.«len»
 refine wpAny_bind (m:=oneArg "len" _) (wpAny_pure ?_)
 refine wpAny_bind (m:=callSpecial? (.ref t) (Str.ofString "__len__")) (wpAny_callSpecial?_slot (name:=Str.ofString "__len__") ht.typeIs PySem.F.slot_tuple_len
  (wpAny_call_entry PySem.F.slot_tuple_len ht.typeIs PySem.F.entry_tuple_len ?_ (PySem.F.args_tuple_len_1 _)))
 ·show wpAny _ _ (Builtin.Tuple.tupleItemsOf (.ref t)>>=λx=>retInt x.size) _ _ s
  unfold Builtin.Tuple.tupleItemsOf
  refine wpAny_bind (wpAny_bind (wpAny_seqItems ho hd (wpAny_pure ?_)))
  refine wpAny_bind (wpAny_mkInt (wpAny_pure ⟨_,rfl,?_⟩))
  refine wpAny_bind (wpAny_holding (wpAny_pure ?_))
  refine wpAny_bind (wpAny_letGo ?_)
  show wpAny _ _ (if((items.size:Nat):Int)<0 then _ else _) _ _ _
  rw[if_neg (by lia)]
  show wpAny _ _ (if((items.size:Nat):Int)>=2 ^ 63 then _ else _) _ _ _
  rw[if_neg (by lia)]
  exact wpAny_bind (wpAny_mkInt (wpAny_pure ⟨_,rfl,h _⟩))
noncomputable abbrev CC(h:Heap)(l1 t2:Addr):Heap:=(zipH1 h l1).push {cls:=.type "tuple_iterator",data:=.fields #[.ref t2,.int 0 0]}
noncomputable abbrev CD(h:Heap)(l1 t2:Addr):Heap:=(CC h l1 t2).push {cls:=.type "tuple",data:=.seq #[.ref h.objs.size,.ref (zipH1 h l1).objs.size]}
noncomputable abbrev CE(h:Heap)(l1 t2:Addr):Heap:=(CD h l1 t2).push {cls:=.type "tuple",data:=.seq #[.none,.none]}
noncomputable abbrev Aq(h:Heap)(l1 t2:Addr):Heap:=(CE h l1 t2).push {cls:=.type "zip",data:=.fields #[.none,.bool false,.bool false,.ref (CC h l1 t2).objs.size,.ref (CD h l1 t2).objs.size]}
theorem oR(l1 t2:Addr)(xs ys:Array Value):
  Meets (Builtin.«zip.__new__» ⟨[.type "zip",.ref l1,.ref t2],[]⟩) (λζ R s=>s.heap.IsList l1 xs/\s.heap.IsTuple t2 ys/\
   R (.ok (.ret (.ref (CE s.heap l1 t2).objs.size))) {s with heap:=Aq s.heap l1 t2}):=
 .of_wp λprog w A R s h=>by
  obtain⟨hp,g,d,tk,os⟩:=s;obtain⟨eW,Oa,h⟩:=h
  have hM:=sub_zip
  have Uv:Heap.IsList (Shared.heap ⟨hp,g,d,tk,os⟩) l1 xs:=eW
  have J9:Heap.IsTuple (Shared.heap ⟨hp.push {cls:=.type "list_iterator",data:=.fields #[.ref l1,.int 0 0]},g,d,tk,os⟩) t2 ys:=Heap.IsTuple.push Oa _
  wp_walk using wpAny_pyIter_list Uv,wpAny_pyIter_tuple J9
  exact⟨_,rfl,h⟩
theorem qS{l1 t2:Addr}{xs ys:Array Value}{Q:Value->Shared->Prop}(eW:s.heap.IsList l1 xs)(Oa:s.heap.IsTuple t2 ys)
  (h:∀h',IsZip h' (s.heap.objs.size+4) (s.heap.objs.size+2) (s.heap.objs.size+3) .none->IsPair h' (s.heap.objs.size+2) (.ref s.heap.objs.size) (.ref (s.heap.objs.size+1))->IsPair h' (s.heap.objs.size+3) .none .none->h'.IsListIter s.heap.objs.size l1 0->
   (∀c o,s.heap.get? c=some o->h'.get? c=some o)->Q (.ref (s.heap.objs.size+4)) {s with heap:=h'}):
  wpAny (model prog w) A (call (.type "zip") [.ref l1,.ref t2]) Q E s:=by
 refine callType_new F.called_zip (by decide) (F.typeCall_zip_2 _ _) (F.newCall_zip_2 _ _) (λobj=>F.args_object_init_3 obj _ _) F.entry_zip_new (oR l1 t2 xs ys) ⟨eW,Oa,?_⟩
 have z1:(zipH1 s.heap l1).objs.size=s.heap.objs.size+1:=Heap.size_push ..
 have z2:(CC s.heap l1 t2).objs.size=s.heap.objs.size+2:=by rw[Heap.size_push,z1]
 have z3:(CD s.heap l1 t2).objs.size=s.heap.objs.size+3:=by rw[Heap.size_push,z2]
 have z4:(CE s.heap l1 t2).objs.size=s.heap.objs.size+4:=by rw[Heap.size_push,z3]
 have g5:(Aq s.heap l1 t2).get? (CE s.heap l1 t2).objs.size=some _:=Heap.get?_push_size _ rfl
 have g4:(Aq s.heap l1 t2).get? (CD s.heap l1 t2).objs.size=some _:=Heap.get?_push_of_some _ (Heap.get?_push_size _ rfl)
 have g3:(Aq s.heap l1 t2).get? (CC s.heap l1 t2).objs.size=some _:=Heap.get?_push_of_some _ (Heap.get?_push_of_some _ (Heap.get?_push_size _ rfl))
 have g1:(Aq s.heap l1 t2).get? s.heap.objs.size=some _:=Heap.get?_push_of_some _ (Heap.get?_push_of_some _ (Heap.get?_push_of_some _ (Heap.get?_push_of_some _ (Heap.get?_push_size _ rfl))))
 show _/\_
 replace g5:=z4▸z3▸z2▸g5
 replace g3:=z2▸z1▸g3
 replace g4:=z3▸g4
 refine z4.symm▸?_
 exact⟨⟨_,g5,rfl⟩,h _ g5 g3 g4 ⟨_,g1,rfl,rfl⟩ λc o x=>Heap.get?_push_of_some _ (Heap.get?_push_of_some _ (Heap.get?_push_of_some _ (Heap.get?_push_of_some _ (Heap.get?_push_of_some _ x))))⟩
theorem As{z TI TO i1 i2 l1:Addr}{Q:Option Value->Shared->Prop}(hh:A.handled=none)(hz:IsZip s.heap z TI TO .none)(l_:IsPair s.heap TI (.ref i1) (.ref i2))(h1:s.heap.IsListIter i1 l1 0)(eW:s.heap.IsList l1 #[])(n1:i1≠z)(n2:l1≠z)
  (hQ:∀h',(∀c o,c≠z->c≠i1->s.heap.get? c=some o->h'.get? c=some o)->Q none {s with heap:=h'}):wpAny (model prog w) A (pyNext (.ref z)) Q E s:=by
 have hT:s.TypeIs (.ref z) "zip":=⟨_,hz,rfl⟩
 unfold pyNext
 refine wpAny_bind (wpAny_attempt (wpAny_callSpecial?_slot (name:=Str.ofString "__next__") hT F.slot_zip_next (wpAny_call_entry F.slot_zip_next hT F.entry_zip_next ?_ (F.args_zip_next_1 _))))
 show wpAny _ _ (field (.ref z) 2>>=_) _ _ _
 refine wpAny_bind (wpAny_field hz rfl (x:=.bool false) rfl ?_)
 show wpAny _ _ (field (.ref z) 3>>=_) _ _ _
 refine wpAny_bind (wpAny_field hz rfl (x:=.ref TI) rfl ?_)
 refine wpAny_bind (wpAny_seqItems l_ rfl ?_)
 show wpAny _ _ (Builtin.SmallTypes.ownedTupleIsFree (.ref z)>>=_) _ _ _
 refine wpAny_bind ?_
 unfold Builtin.SmallTypes.ownedTupleIsFree
 refine wpAny_bind (wpAny_field hz rfl (x:=.none) rfl (wpAny_pure ?_))
 simp only[if_true]
 refine wpAny_bind (wpAny_rule ?_)
 refine wpAny_bind (wpAny_field hz rfl (x:=.ref TO) rfl ?_)
 refine wpAny_bind (wpAny_setField_rec hz (by simp) λh₁ uX cQ=>?_)
 refine wpAny_bind ?_
 simp only[List.zipIdx_cons,List.zipIdx_nil,List.forIn_cons,List.forIn_nil]
 refine wpAny_bind (wpAny_bind (wpAny_onRaise ?_))
 show wpAny _ _ (Builtin.SmallTypes.nextOf (.ref i1)>>=_) _ _ _
 refine wpAny_bind (wpAny_nextOf_list_end hh (h1.extBut cQ.extBut n1) (eW.extBut cQ.extBut n2) rfl λbj e d7 he=>?_)
 refine aU he λoe DK Di=>?_
 clear he
 have DT:=d7 _ _ n1.symm uX
 have Uw:e≠z:=λx=>by subst x;replace DK:=DT▸DK;cases DK;simp at Di
 refine wpAny_setField_rec DT (by simp) λqi ζ dv=>?_
 refine wpAny_bind (wpAny_isInstance (T:="StopIteration") (b:=true) ⟨oe,dv.extBut _ _ Uw DK,Di⟩ isSubtype_stop ?_)
 exact wpAny_pure (hQ _ λc o c1 c2 x=>dv.extBut _ _ c1 (d7 _ _ c2 (cQ.extBut _ _ c1 x)))
end
section
variable{A:Around}{E:Value->Heap->Prop}{h g:Heap}{env:Env}{L:Addr}{m:Str->Option Value}{ρ:List (Addr×Obj)}{l:List Cell}
theorem FT{a:Addr}{xs:List Value}{Q:Value->Heap->Prop}(e:Tp h a xs)(hz:xs.length<=100000)(k:∀t,Q (.int xs.length t) h):Wp A (call (.builtin "len") [.ref a]) Q E h:=.of λgg dd kk o Q' E' hQ hE=>by
 refine aP e λc e=>?_
 exact Ap (s:=⟨h,gg,dd,kk,o⟩) ⟨_,e,rfl,c,rfl⟩ (by refine List.size_toArray.symm▸?_;lia) λk'=>hQ _ _ _ (by refine List.size_toArray.symm▸?_;exact k _)
inductive Ze(ρ:List (Addr×Obj))(g:Heap)(L:Addr)(m:Str->Option Value)(l:List Cell):Value->Heap->Prop
 |mk (h0 h1 g0:Heap) (z TI TO i1 i2 a:Addr) (F:Fx ρ g0 L m l h0) (S:Sub g g0) (S1:Sub h0 h1) (n1:h0.get? z=none) (n2:h0.get? i1=none) (hz:IsZip h1 z TI TO .none) (ti:IsPair h1 TI (.ref i1) (.ref i2)) (hi:h1.IsListIter i1 a 0) (hl:h1.IsList a #[]) (e1:i1≠z) (e2:a≠z):Ze ρ g L m l (.ref z) h1
theorem FU{a t:Addr}{ys:List Value}{g0:Heap}{Q:Value->Heap->Prop}(F:Fx ρ g L m l h)(S:Sub g0 g)(hl:Ls h a [])(ht:Tp h t ys)(k:∀v h1,Ze ρ g0 L m l v h1->Q v h1):Wp A (call (.type "zip") [.ref a,.ref t]) Q E h:=by
 refine .of ?_;intro gg d kk o Q' E' hQ hE
 obtain⟨oa,ea,pa⟩:=hl
 refine aP ht λc et=>?_
 clear ht
 have fr:∀n,h.get? (h.objs.size+n)=none:=λn=>by
  cases e:h.get? (h.objs.size+n) with
  |none=>rfl
  |some o=>exact absurd (Heap.lt_size e) (Nat.not_lt.mpr (Nat.le_add_right _ _))
 refine qS (s:=⟨h,gg,d,kk,o⟩) (pa.isList ea) ⟨_,et,rfl,c,rfl⟩ λh' hz l_ o5 hi hk=>hQ _ _ _ (k _ _ (.mk h h' g _ _ _ h.objs.size _ a F S hk (fr 4) (fr 0) hz l_ hi ⟨_,hk _ _ ea,by obtain⟨p1,p2,n,p3⟩:=pa;exact⟨p1,n,p3⟩⟩ (Nat.ne_of_lt (Nat.lt_add_of_pos_right (by decide))) (Nat.ne_of_lt (Nat.lt_of_lt_of_le (Heap.lt_size ea) (Nat.le_add_right _ _)))))
theorem CF{target iter:Expr}{body:List Stmt}{pos:Pos}{Q:Flow->Heap->Prop}(_F:Fx ρ g L m l h)(hh:A.handled=none)(x:Wp A (eval iter env) (Ze ρ g L m l) E h)(k:∀g' h',Sub g g'->Fx ρ g' L m l h'->Q .next h')
  (hs:∀x,foldedSetIterable iter env x=pure x:=by intro _;rfl):Wp A (exec (.For target iter body [] pos) env) Q E h:=by
 refine .of ?_;intro gg d kk o Q' E' hQ hE
 refine wpAny_For (x.go gg d kk o _ _ (λv h1 k1 q=>?_) hE) hs
 cases q with|mk h0 _ g0 z TI TO i1 i2 a F S S1 n1 n2 hz ti hi hl e1 e2=>
 refine wpAny_pyIter_zip (s:=⟨h1,gg,d,k1,o⟩) hz ?_
 refine codeAny_forLoop_any (λq s=>s=⟨h1,gg,d,k1,o⟩) ?_ 0 rfl
 rintro q s rfl
 refine As (s:=⟨h1,gg,d,k1,o⟩) hh hz ti hi hl e1 e2 λh2 hk=>wpAny_execs_nil ?_
 obtain⟨g',S',F'⟩:=F.ext (h':=h2) λb ob e=>hk b ob (λq=>by replace e:=n1▸q▸e;cases e) (λq=>by replace e:=n2▸q▸e;cases e) (S1 _ _ e)
 exact hQ _ _ _ (k g' h2 (S.trans S') F')
end
section
variable{A:Around}{E:Value->Heap->Prop}{h g:Heap}{R:Result->Heap->Prop}{env:Env}
theorem wO{x fn fa fr e:Addr}{al:List (Str×Value)}{ns as rs:List Value}{nm:Str}{tn:Tok}{vk:Value}(X:Gr [] g h [(fn,Lo ns),(fa,Lo as),(fr,Lo rs)])(G:Gd g)(I:In w.params g x 638 al)(q1:al.lookup (U "fun_names")=some (.ref fn))(q2:al.lookup (U "fun_args")=some (.ref fa))(q3:al.lookup (U "fun_results")=some (.ref fr))(hm:∀p∈ei,al.lookup p.1=none)(te:Tp g e [])(hA:Rm A 1)(z1:ns.length<=100)(z2:as.length<=100)(z3:rs.length<=100)
  (K:∀t h',Step [] [(fn,Lo ns),(fa,Lo as),(fr,Lo rs)] h [(fn,Lo (ns++[.str nm tn])),(fa,Lo (as++[.ref e])),(fr,Lo (rs++[vk]))] h'->R (.ok (.ret (.int (ns.length:Int) t))) h'):Cd A (.call (.ref 168) ⟨[.ref x,.str nm tn,.ref e,vk],[]⟩) R h:=by
 refine aw (ps:=[U "self",U "name",U "arg_sorts",U "result"]) (rest:=[]) (ns:=[U "self",U "name",U "arg_sorts",U "result"]) (gs:=[U "tuple",U "len"]) (vs:=[some (.ref x),some (.str nm tn),some (.ref e),some vk]) (r:=0) X G hA (h_ G) (ib G) rfl rfl rfl rfl rfl (by decide +kernel) λL g1 h1 env A1 hE bS hr O S F=>?_
 refine au ?_
 k_extra "T"
 refine yX (by k_extra "u") ?_
 k_extra "T"
 refine yR (Ls.own (by k_extra "s") (by k_extra "m")) (by simp;k_extra "z") λζ=>?_
 k_extra "T"
 refine(show(((ns++[Value.str nm tn]).length:Int)-1)=(ns.length:Int) by simp).symm▸?_
 exact ah (K _ _ (X.done (by k_extra "s") (by k_extra "q")))
theorem JC{k:dg}{B:List Row}{ops args sorts ae:List Value}{xs:List (Row×Addr×Value)}{fa fr e sa:Addr}{as rs:List Value}{f:Nat}{tf ts:Tok}{s:Int}(X:Gr [] g h (Bl k ops args sorts ae xs))(G:Gd g)(I:In w.params g k.self 638 k.al)(At:dS k)(q2:k.al.lookup (U "fun_args")=some (.ref fa))(q3:k.al.lookup (U "fun_results")=some (.ref fr))(bk:Bk k B ops args sorts ae xs h)(hA:Rm A 2)(hz:B.length<=5000)
  (la:Ls g fa as)(lr:Ls g fr rs)(ea:as[f]? =some (.ref e))(te:Tp g e [])(er:rs[f]? =some (.int s ts))(hs:Ls g sa [])(hf:f<=100)
  (K:∀(i:Nat) t B' av ai af ag aO h',Step [] (Bl k ops args sorts ae xs) h (Bl k av ai af ag aO) h'->Bk k B' av ai af ag aO h'->Mk B (U "app",[],s,.inl (f:Int)) i B'->R (.ok (.ret (.int i t))) h'):Cd A (.call (.ref 406) ⟨[.ref k.self,.int (f:Int) tf,.ref sa],[]⟩) R h:=by
 refine aw (ps:=[U "self",U "f",U "some"]) (rest:=[U "sorts",U "t",U "s"]) (ns:=[U "self",U "f",U "some",U "sorts",U "t",U "s"]) (gs:=[U "len",U "SortFault",U "zip",U "tuple"]) (vs:=[some (.ref k.self),some (.int (f:Int) tf),some (.ref sa),none,none,none]) (r:=1) X G hA (kN G) (kO G) rfl rfl rfl rfl rfl (by decide +kernel) λL g1 h1 env A1 hE bS hr O S F=>?_
 have hb:=bk.up X.aj
 obtain⟨a1,a2,a3,a4,a5,a6,a7⟩:=id At
 have Wm:=bN ea
 have kx:=bN er
 have hi:f<2 ^ 62:=Nat.lt_of_le_of_lt hf (by decide)
 refine au ?_
 k_extra "T"
 refine FT (by k_extra "u") (by decide) λζ=>?_
 k_extra "T"
 refine bL (by simp) ?_
 k_extra "T"
 refine CF (by k_extra "s") hr.hd ?_ λg5 h5 S5 F5=>?_
 ·k_extra "T"
  exact FU (by k_extra "s") (by k_extra "q") (by k_extra "u") (by k_extra "u") λv h1 q=>q
 k_extra "T"
 obtain⟨G3,x3,S3⟩:=Fx.bF (by k_extra "s")
 refine Wp.call (fo (k:=k) (B:=B) (d:=.inl (f:Int)) (is:=[]) x3 (by k_extra "u") (by k_extra "u") At (by k_extra "u") hr hz (by decide +kernel) ⟨_,_,rfl,by k_extra "u",.nil⟩ ⟨_,rfl⟩ λi t B' av ai af ag aO h' st b' mk=>?_)
 obtain⟨g6,S6,F6⟩:=Fx.aT (by k_extra "s") st
 k_extra "T"
 exact ah (K i t B' av ai af ag aO h' (X.done F6 (by k_extra "q")) b' mk)
end
theorem oS{f:Nat->Int}{n:Nat}(h:(firstMet f n).length=1):∀i j,i<n->j<n->f i=f j:=by
 refine aP (List.length_eq_one_iff.mp h) λa ha=>?_
 have key:∀i,i<n->f i=a:=λi hi=>by
  have:=firstMet_any f n (f i)
  replace this:=ha▸this
  have t:((List.range n).map f).any (·==f i)=true:=List.any_eq_true.mpr ⟨f i,List.mem_map.mpr ⟨i,List.mem_range.mpr hi,rfl⟩,by simp⟩
  replace this:=t▸this
  have:=this.symm
  simp at this
  exact this.symm
 exact λi j hi hj=>(key i hi).trans (key j hj).symm
section
variable{Γ:Cx}{A:Around}{E:Value->Heap->Prop}{m m':Str->Option Value}{l l':List Cell}{g g' h h':Heap}{r:Nat}{ns gs:List Str}{cs:List (Str×Addr)}{e e':Expr}{s t:Sp}{pos:Pos}{ρ:List (Addr×Obj)}{env:Env}{L:Addr}
theorem Px.to{xs:List Value}{i:Nat}{p:Pos}(x:Px Γ m l g e (.l xs))(y:Px Γ m l g e' (.i (i:Int)))(hz:xs.length<=10000)(ht:∀o r,letTemporaryGo e o r=pure ():=by intro _ _;rfl):Px Γ m l g (.Subscript e (.Slice none (some e') none p) pos) (.l (xs.take i)):=
 ⟨λE Q g1 h S F q=>vW (ρ:=Γ.ρ) (L:=Γ.L) (Px.two x y S F λu v g2 h2 S2 F2 p1 p2=>by
  refine aU p1 λa ak hl=>?_
  clear p1
  obtain rfl:=ak
  refine aP p2 λt ak=>?_
  clear p2
  obtain rfl:=ak
  exact⟨a,xs,i,t,g2,m,l,rfl,rfl,F2,hl.up F2.keep,hz,λb g3 h3 S3 E7 F3=>q _ g3 h3 (S2.trans S3) F3 ⟨b,rfl,E7⟩⟩) ht⟩
theorem Px.mod{a b:Int}(hb:b≠0)(x:Px Γ m l g e (.i a))(y:Px Γ m l g e' (.i b)):Px Γ m l g (.BinOp e .Mod e' pos) (.i (a.fmod b)):=Px.bin (λE Q t u h q=>uj hb q) x y
theorem Px.FV(C:Co Γ r ns gs cs)(G:Gd g){p:Pos}{a:Int}(hx:Gs gs (U "int"))(x:Px Γ m l g e (.i a))
  (he:eval (.Call (.Name (U "int") p) [e] [] pos) Γ.env=(do callWith pos (<-eval (.Name (U "int") p) Γ.env) [] (backTo pos (starEach [e] Γ.env)) (backToKw pos (keywordEach [] Γ.env))):=by rfl)
  (hs:starEach [e] Γ.env=(false,eval e Γ.env)::starEach [] Γ.env:=by rfl):Px Γ m l g (.Call (.Name (U "int") p) [e] [] pos) (.i a):=
 ⟨λE Q g1 h S F q=>bw ((Px.blt C G hx (v:=.type "int") (.tl (.tl (.tl .hd)))).go _ _ g1 h S F λv g2 h2 S2 F2 ev=>by
  obtain rfl:v= .type "int":=ev
  refine dU ((Pa.cons x Pa.nil hs).go pos _ _ g2 h2 (S.trans S2) F2 λvs g3 h3 S3 F3 b=>?_) hs (by rfl)
  cases b with|cons b1 b2=>
  cases b2
  refine aP b1 λt1 ak=>?_
  clear b1
  obtain rfl:=ak
  exact zB (q _ g3 h3 (S2.trans S3) F3 ⟨_,rfl⟩)) he⟩
theorem u5(ss:List Sp){elt iter:Expr}{x:Str}{px:Pos}{scope:Scope}{cl:List (Str×Addr)}{xs:List Value}{gs':List Str}{Q:Value->Heap->Prop}(C:Co Γ r ns gs cs)(F:Fv Γ g m l h)(y0:Px Γ m l g iter (.l xs))(E6:∀p∈cl,p∈cs)
  (dN:closureFor scope Γ.env=pure cl)(km:qt scope x gs' (cl.map (·.1))=true)(hz:xs.length<=100)(hlen:ss.length=xs.length)
  (turn:∀(i:Nat) (v:Value) qA mc lc g1,xs[i]? =some v->qA.A=Γ.A->Co qA r [x] gs' cl->mc x=some v->(∀c∈l,c∈lc)->Sub g g1->∃s,ss[i]? =some s/\s.flat=true/\Px qA mc lc g1 elt s)
  (k:∀D ys g' h',Sub g g'->Fv Γ g' m l h'->Ls g' D ys->Ar g' ss ys->Q (.ref D) h')
  (hs:∀x,foldedSetIterable iter Γ.env x=pure x:=by intro _;rfl):Wp Γ.A (eval (.ListComp elt [⟨.Name x px,iter,[],0⟩] scope pos) Γ.env) Q E h:=by
 refine ky (n:=xs.length) (P:=λi v=>xs[i]? =some v) Γ.ρ Γ.L C.rm.hd C.ev C.ec E6 dN km (λi ys g1 l1=>l1=l/\Sub g g1/\ys.length<=i/\i<=100/\Ar g1 (ss.take i) ys/\∀s∈ss.take i,s.flat=true) (λi ys g1 l1 q=>by lia) ?_ ?_ hs
 ·refine y0.go _ _ g h (Sub.refl _) F λv g2 h2 S2 F2 p=>?_
  refine aU p λa ak hl=>?_
  clear p
  obtain rfl:=ak
  refine⟨g2,m,l,F2,Src.list hl,λg3 S3=>⟨rfl,S2.trans S3,Nat.le_refl _,by lia,.nil,λs hs=>nomatch hs⟩,λD ys g3 g4 l4 h4 q T S4 F4=>?_⟩
  refine OE q λak S3 uL ζ ar fl=>?_
  clear q
  obtain rfl:=ak
  rw[<-hlen,List.take_length] at ar fl
  obtain⟨g5,S5,hD,F5⟩:=Fx.freeze F4
  exact k D ys g5 h4 (S2.trans (S4.trans S5)) F5 hD (ar.EZ fl (T.trans S5.aj))
 ·rintro i v ys g1 l1 h1 it p D C0 cB hi hv ⟨rfl,S1,uL,Dw,ar,fl⟩ O Cc F1
  refine fF (turn i v ⟨Γ.A,cB,Γ.ρ,C0⟩ (mv [x] [some v]) ((it,p)::(D,Lo ys)::l1) g1 hv rfl ⟨C.rm,O,Cc,C.nt⟩ (by simp[mv]) (λc hc=>List.mem_cons_of_mem _ (List.mem_cons_of_mem _ hc)) S1) λs es fs px=>?_
  refine lz ?_
  refine px.go _ _ g1 h1 (Sub.refl _) F1 λu g3 h3 S3 F3 q=>?_
  have et:ss.take (i+1)=ss.take i++[s]:=by refine List.take_add_one.symm▸es.symm▸?_;rfl
  exact⟨g3,l1,F3,S3,rfl,S1.trans S3,by simp;lia,by lia,by refine et.symm▸?_;exact(ar.up S3).snoc q,by
   refine et.symm▸?_
   intro s' mP
   rcases List.mem_append.mp mP with z|z
   ·exact fl s' z
   ·refine(List.mem_singleton.mp z).symm▸?_;exact fs⟩
theorem oU{g:Heap}{ns:List Int}{ys:List Value}(x:Ar g (ns.map .i) ys):IntsAre ys ns:=by
 induction ns generalizing ys with
 |nil=>cases x;exact .nil
 |cons n ns ih=>
  cases x with|cons a b=>
  refine aP a λt ak=>?_
  clear a
  obtain rfl:=ak
  exact .cons n t (ih b)
theorem kC{T:Type}[DecidableEq T](knd:KeyKind PW w T){keys:List (Option Expr)}{values:List Expr}{Q:Value->Heap->Prop}(F:Fx ρ g L m l h)
  (x:∀D h1,D=h.objs.size->Fx ρ g L m ((D,Do knd [])::l) h1->Wp A (evalPairs (pairTrees keys values env pos)) (λvs h2=>∃kvs g' m' l',Carries knd vs kvs/\Fx ρ g' L m' ((D,Do knd [])::l') h2/\∀h3,Fx ρ g' L m' ((D,Do knd (merged [] kvs))::l') h3->Q (.ref D) h3) E h1)
  (mq:keys.all (·.isSome)=true:=by rfl)(hl:keys.length=values.length:=by rfl)(h0:(keys.isEmpty)=false:=by rfl)(hlen:keys.length<=15:=by decide):Wp A (eval (.Dict keys values pos) env) Q E h:=
 .of λgg d kk o Q' E' hQ hE=>by
  refine wpAny_Dict_walk (knd:=knd) mq hl (by intro q;replace h0:=q▸h0;cases h0) hlen ?_
  have F1:=F.push {cls:=.type "dict",data:=.dict #[]} (p:=Do knd []) ⟨⟨rfl,rfl,rfl⟩,#[],0,rfl,(λe he=>nomatch he),.nil,List.nodup_nil⟩ Do.nt
  refine Wp.go (x _ _ rfl F1) gg d _ o _ _ (λvs h2 k2 q=>?_) hE
  refine JT q λkvs g' m' l' hc F2 K=>?_
  clear q
  obtain⟨ob,e,p⟩:=F2.get List.mem_cons_self
  refine⟨kvs,hc,p.dictOf e,λh3 hd AN=>hQ _ _ _ (K h3 ?_)⟩
  obtain⟨o',e',p'⟩:=Do.of hd
  exact F2.turn (l₀:=[]) AN e' p' Do.nt
theorem cu{k v:Expr}{ks:List (Option Expr)}{vs:List Expr}{Q:List (Value×Value)->Heap->Prop}
  (x:Wp A (eval k env) (λkv h1=>Wp A (eval v env) (λvv h2=>Wp A (evalPairs (pairTrees ks vs env pos)) (λr h3=>Q ((kv,vv)::r) h3) E h2) E h1) E h):Wp A (evalPairs (pairTrees (some k::ks) (v::vs) env pos)) Q E h:=
 .of λgg d kk o Q' E' hQ hE=>pairTrees_cons_walk (Wp.go x gg d kk o _ _ (λa h1 k1 q=>Wp.go q gg d k1 o _ _ (λb h2 k2 q=>Wp.go q gg d k2 o _ _ (λr h3 k3 q=>hQ _ _ _ q) hE) hE) hE)
theorem i6{Q:List (Value×Value)->Heap->Prop}(x:Q [] h):Wp A (evalPairs (pairTrees [] [] env pos)) Q E h:=
 .of λgg d kk o Q' E' hQ hE=>pairTrees_nil_walk (hQ _ _ _ x)
theorem wQ{pl:Sem Bool}{d:Addr}{Q:Value×List Value->Heap->Prop}(e:∃o,h.get? d=some o/\o.ExactDict)(k:Q (.builtin "dict.update",[.ref d]) h):Wp A (getMethod (.ref d) "update" pl) Q E h:=.of λgg dd kk o Q' E' hQ hE=>by
 refine aU e λob e h1=>?_
 exact getMethod_builtin (s:=⟨h,gg,dd,kk,o⟩) (⟨ob,e,h1.1⟩:Shared.TypeIs _ (.ref d) "dict") PySem.F.plainAttrs_dict PySem.F.slot_dict_update PySem.F.type_dict_update (λb e'=>by cases e';exact⟨ob,e,h1.2.1⟩) (hQ _ _ _ k)
theorem Au{T:Type}[DecidableEq T]{knd:KeyKind PW w T}{d b:Addr}{kvs more:List (T×Value)}{Q:Value->Heap->Prop}(F:Fx ρ g L m ((b,Do knd more)::(d,Do knd kvs)::l) h)(hb:2<=b)(hz:kvs.length+more.length<=10000)
  (k:∀h',Fx ρ g L m ((b,Do knd more)::(d,Do knd (merged kvs more))::l) h'->Q .none h'):Wp A (call (.builtin "dict.update") ([.ref d]++[.ref b])) Q E h:=.of λgg dd kk o Q' E' hQ hE=>by
 obtain⟨ob,e,p⟩:=F.get (a:=d) (p:=Do knd kvs) (.tail _ (.head _))
 obtain⟨Wn,e2,p2⟩:=F.get (a:=b) (p:=Do knd more) (.head _)
 have ne:d≠b:=λq=>by
  have:=F.own.nd
  simp[adr,q] at this
 refine call_meetsIn (s:=⟨h,gg,dd,kk,o⟩) PySem.F.slot_dict_update (p.dictOf e).typeIs PySem.F.entry_dict_update (PySem.F.args_dict_update_2 _ _) (meets_dict_update knd d b ne (beq_eq_false_iff_ne.mpr λq=>absurd hb (by refine q.symm▸?_;decide)))
  ⟨kvs,more,p.dictOf e,p2.dictOf e2,Nat.le_trans hz (by decide),λh' hm ζ hs=>hQ _ _ _ (k h' ?_)⟩
 obtain⟨o',e',p'⟩:=Do.of hm
 exact F.turn (l₀:=[(b,Do knd more)]) hs e' p' Do.nt
theorem JD{a:Addr}{vs:List Value}{ns:List Int}{Q:Value->Heap->Prop}(hh:A.handled=none)(F:Fx ρ g L m l h)(e:Ls h a vs)(hi:IntsAre vs ns)(hz:vs.length<=100)
  (k:∀D g' h',Sub g g'->Fx ρ g' L m l h'->h'.SetOf (intKind PW w) D (λk'=>(firstMet (λi=>ns.getD i 0) vs.length).any (·==k')) (firstMet (λi=>ns.getD i 0) vs.length).length->Q (.ref D) h'):Wp A (call (.type "set") [.ref a]) Q E h:=by
 refine .of ?_;intro gg d kk o Q' E' hQ hE
 obtain⟨ol,el,pl⟩:=e
 have hl:=pl.isList el
 refine call_set_list (s:=⟨h,gg,d,kk,o⟩) hh hl hi (by refine List.size_toArray.symm▸?_;exact Nat.lt_of_le_of_lt (Nat.add_le_add_right hz 1) (by decide)) λh' tk hS hk=>?_
 obtain⟨g',S,F'⟩:=F.ext (h':=h') λb o e=>hk b o (Heap.lt_size e) e
 exact hQ _ _ _ (k _ g' h' S F' hS)
theorem FW{T:Type}[DecidableEq T]{knd:KeyKind PW w T}{D:Addr}{f:T->Bool}{n:Nat}{Q:Value->Heap->Prop}(hS:h.SetOf knd D f n)(hn:n<=1000)(k:∀t,Q (.int n t) h):Wp A (call (.builtin "len") [.ref D]) Q E h:=.of λgg d kk o Q' E' hQ hE=>by
 obtain⟨ob,es,ep,tb,e,hx,hd,ζ,ζ,ζ,hf,rfl⟩:=hS
 exact call_len_set (s:=⟨h,gg,d,kk,o⟩) e hx hd hf (by show(es.size:Int)<2 ^ 63;lia) (hQ _ _ _ (k _))
end
noncomputable def uc(P:Params):FuncData:=match nD.data with| .func f=>f|_=>default
noncomputable abbrev AY:List Str:=[U "script",U "cells",U "feed",U "names",U "words",U "world",U "points",U "lap",U "point",U "some",U "turn",U "other"]
noncomputable abbrev AZ:List Str:=[U "sum",U "TermBank",U "INT",U "REAL",U "range",U "_law_draw",U "_law_term",U "len",U "set",U "_law_product_right",U "_law_quotient_right",U "_law_size_right",U "_law_compared_right"]
theorem qT(cl:Addr)(n:Int)(tn:Tok)(s:Int)(ts:Tok):merged [] (eT cl n tn s ts)=eT cl n tn s ts:=by k_extra "R"
section
variable{Γ:Cx}{E:Value->Heap->Prop}{m:Str->Option Value}{l:List Cell}{g h:Heap}{r:Nat}{cs:List (Str×Addr)}
theorem wR{sa:Addr}{vs:List Value}{ns:List Int}{Q:Flow->Heap->Prop}(C:Co Γ r AY AZ cs)(hE:Γ.env=callEnvC (uc w.params) Γ.L 836)(F:Fv Γ g m l h)(P:Ps m [(U "script",.ref sa)])(G:Gd g)(hl:Ls g sa vs)(hi:IntsAre vs ns)(hz:vs.length<=100)
  (k:∀cl fd s tn ts m' g' h',Sub g g'->Cs g' cl->Fv Γ g' m' (Fd fd cl 0 tn s ts::l) h'->Ps m' [(U "feed",.ref fd)]->Wp Γ.A (execs ((cD (st 38)).drop 2) Γ.env) Q E h'):Wp Γ.A (execs (cD (st 38)) Γ.env) Q E h:=by
 have hn:=cp hi
 refine ab λQ0 me=>?_
 refine dj ((ns.take 40).map λc=>some (.i c)) C F (xs:=vs.take 40) (s:=.l (vs.take 40)) (Px.to (xs:=vs) (i:=40) (by k_extra "v") (Px.lu rfl) (by k_extra "z") (by intro _ _;k_extra "R")) (by k_extra "a") (cl:=[]) (gs':=[U "int"]) (by simp) (by refine hE.symm▸?_;k_extra "R") (by refine hE.symm▸?_;k_extra "R") (by kernel_rfl) (by simp;k_extra "z") (by simp;lia) (λi v qA mc lc g1 hv Cc hm hM S1=>?_) (λD ys g2 h2 m2 S2 F2 ni ar M2=>?_) (by intro _;k_extra "R")
 ·replace hv:=List.getElem?_take▸hv
  split at hv
  ·refine dm (kz hi i v hv) λz t e1 ak=>?_
   obtain rfl:=ak
   exact⟨some (.i z),by refine List.getElem?_map.symm▸List.getElem?_take.symm▸?_;rw[if_pos (by assumption)];refine e1.symm▸?_;rfl,.yes .nil (Px.FV Cc (G.up S1) .hd (Px.o3 (Px.local Cc .hd hm)) (by k_extra "R") (by k_extra "R")) rfl⟩
  ·cases hv
 refine me.go ?_
 replace ar:=List.filterMap_eq_map'▸(show(id ∘ λc:Int=>some (Sp.i c))=λc=>some (Sp.i c) from rfl)▸List.filterMap_map▸ar
 have qC:=oU ar
 have Mv:=cp qC
 replace Mv:=List.length_take▸Mv
 have hc:=M2.hd
 refine ab λQ1 gE=>?_
 refine aZ (kC (strKind PW w) F2 λfd h3 ζ F3=>?_) (by k_extra "R")
 refine cu (cJ λt1=>ck (v:=.ref D) C (by k_extra "a") hc F3 ?_)
 have S4:=Sub.refl g2
 refine cu (cJ λt2=>dT λt3=>?_)
 refine cu (cJ λt4=>bw (iC C ((G.up S2).up S4) (v:=.builtin "sum") (by k_extra "a") (by k_extra "a") F3 ?_) (by k_extra "R"))
 have S5:=Sub.refl g2
 have GK:=S4.trans S5
 have G5:=(G.up S2).up GK
 refine eY (az (u5 ((ns.take 40).map λc=>.i ((if c<0 then -c else c).fmod 1009)) C F3 (Px.qZ (Px.local C (by k_extra "a") hc) (ni.up GK)) (cl:=[]) (gs':=[U "abs"]) (by simp) (by refine hE.symm▸?_;k_extra "R") (by kernel_rfl) (by k_extra "z") (by simp;lia) (λi v qA mc lc g1 hv hA Cc hm hM S1=>?_) (λD2 Wr g6 h6 S6 F6 AW QC=>?_) (by intro _;k_extra "R")) (by k_extra "R")) (by k_extra "R")
 ·refine dm (kz qC i v hv) λz t e1 ak=>?_
  obtain rfl:=ak
  exact⟨_,by refine List.getElem?_map.symm▸e1.symm▸?_;rfl,rfl,Px.mod (by decide) (Px.abs Cc (G5.up S1) .hd (Px.o3 (Px.local Cc .hd hm)) (by k_extra "R") (by k_extra "R")) Px.int⟩
 rw[show((ns.take 40).map λc:Int=>Sp.i ((if c<0 then -c else c).fmod 1009))=((ns.take 40).map λc=>(if c<0 then -c else c).fmod 1009).map .i by refine List.map_map.symm▸?_;rfl] at QC
 have GL:=oU QC
 refine aC (Iw C.rm.hd F6 (AW.up F6.keep) GL λt5 g7 h7 S7 F7=>?_)
 refine i6 ⟨eT D 0 t3 _ t5,g7,m2,l,⟨strKind_is PW w _ _,rfl,strKind_is PW w _ _,rfl,strKind_is PW w _ _,rfl,trivial⟩,F7,λh8 F8=>?_⟩
 replace F8:=(qT ..)▸F8
 refine aA C F8 (by k_extra "a") λm9 h9 F9 M9=>?_
 refine gE.go ?_
 exact k D fd _ t3 t5 m9 g7 h9 (S2.trans (GK.trans (S6.trans S7))) ⟨ys,_,ni.up (GK.trans (S6.trans S7)),qC,by k_extra "z"⟩ F9 (.cons M9.hd (.nil _))
end
section
variable{Γ:Cx}{E:Value->Heap->Prop}{m:Str->Option Value}{l:List Cell}{g h:Heap}{r:Nat}{cs:List (Str×Addr)}
noncomputable abbrev gX(u v:Tok)(z:Value):List (Str×Value):=[(U "true_number",.int 1 u),(U "false_number",.int 2 v),(U "bv_numbers",z)]
theorem Mb.qU{b:Mb}{u v:Tok}{z:Value}:(b.al (gX u v z)).lookup (U "fun_names")=some (.ref b.fn)/\(b.al (gX u v z)).lookup (U "fun_args")=some (.ref b.fa)/\(b.al (gX u v z)).lookup (U "fun_results")=some (.ref b.fr)/\(b.al (gX u v z)).lookup (U "true_number")=some (.int 1 u)/\(b.al (gX u v z)).lookup (U "sort_names")=some (.ref b.sn):=⟨by kernel_rfl,by kernel_rfl,by kernel_rfl,by kernel_rfl,by kernel_rfl⟩
noncomputable abbrev Av(b:Mb)(ns as rs:List Value):List Cell:=[(b.fn,Lo ns),(b.fa,Lo as),(b.fr,Lo rs)]
noncomputable abbrev ZI(nd:Addr)(kvs:List (Int×Value)):Cell:=(nd,Do (intKind PW w) kvs)
theorem Aw{α:Type}{a d s b:α}{lt:List α}(X:List α):(a::d::s::(X++b::lt)).Perm (b::d::s::a::(X++lt)):=
 ((List.perm_middle (l₁:=a::d::s::X)).trans (((List.Perm.swap d a _).trans ((List.Perm.swap s a _).cons d)).cons b))
theorem Ax{lt:List Cell}{kc bc fd:Addr}{fc:Cell}(C:Co Γ r AY AZ [(U "kind",kc),(U "bank",bc)])(hr:5<=r)(hE:Γ.env=callEnvC (uc w.params) Γ.L 836)(F:Fv Γ g m (fc::(kc,Ce none)::(bc,Ce none)::lt) h)(P:Ps m [(U "feed",.ref fd)])(G:Gd g){Q:Flow->Heap->Prop}
  (k:∀(b:Mb) u v z nd ops args sorts ae xs m' g' h',Sub g g'->Ck g' bc (.ref b.x)->In w.params g' b.x 638 (b.al (gX u v z))->Sn g' b.sn->2<=b.nums->Bk (b.k (gX u v z)) [ik,oQ,t_] ops args sorts ae xs g'->Fv Γ g' m' (ZI nd []::Av b [] [] []++Bl (b.k (gX u v z)) ops args sorts ae xs++(fc::(kc,Ce none)::lt)) h'->Ps m' [(U "feed",.ref fd),(U "names",.ref nd)]->Wp Γ.A (execs ((cD (st 38)).drop 3) Γ.env) Q E h'):Wp Γ.A (execs ((cD (st 38)).drop 2) Γ.env) Q E h:=by
 refine ab λQ0 me=>?_
 refine jd (cK (az (bw (ow (v:=.ref 638) C G (by k_extra "a") (by k_extra "a") F ?_) (by k_extra "R")) (by k_extra "R"))) (by k_extra "R") (by refine hE.symm▸?_;k_extra "R")
 have S1:=Sub.refl g
 refine tg (by decide) ((G.up S1).up F.keep) ?_
 refine zj (fI:=537) (by decide) F (G.up S1) λx dx g2 h2 S2 e2 F2=>?_
 obtain⟨G3,x3,S3⟩:=Fx.iW (l:=[(dx,So w.params [])]) F2
 refine ke x3 (((G.up S1).up S2).up S3) (S3 _ _ e2) ((C.rm.less hr).makes.less (by decide)) λu v z b lb h3 st ba=>⟨rfl,?_⟩
 obtain⟨g4,S4,F4⟩:=Fx.gy (l:=[(dx,So w.params [])]) F2 st
 cases ba with|mk t0 t1 t2 ops args sorts ae xs hx big bk=>
 subst hx
 refine az (oO (p:=Do (intKind PW w) []) F4 ⟨⟨rfl,rfl,rfl⟩,#[],0,rfl,(λe he=>nomatch he),.nil,List.nodup_nil⟩ Do.nt λnd h5 Gy F5=>?_) (by k_extra "R")
 refine aC ?_
 refine bh F5 (by show 2<=1000;decide) λt6 g6 h6 S6 T6 F6=>?_
 refine eK C.rm.hd F6 (T6.up F6.keep.aj) (by k_extra "R") (by k_extra "R") λg7 h7 S7 F7=>?_
 have Sg:Sub g g7:=S1.trans (S2.trans (S4.trans (S6.trans S7)))
 replace F7:Fv Γ g7 m ((bc,Ce none)::(dx,So w.params (b.al (gX u v z)))::(b.sn,Lo (Kz t0 t1 t2))::(ZI nd []::Av b [] [] []++Bl (b.k (gX u v z)) ops args sorts ae xs++(fc::(kc,Ce none)::lt))) h7:=F7.perm (Aw (Av b [] [] []++Bl (b.k (gX u v z)) ops args sorts ae xs++[fc,(kc,Ce none)]))
 refine cL (aY (dC (v:=.ref b.x) C F7 (by k_extra "a") .hd λh8 F8=>?_))
 refine cL (aY (aA C F8 (by k_extra "a") λm9 h9 F9 M9=>?_))
 refine eM (me.go ?_)
 obtain⟨iU,iE,kb,iA⟩:=F9.fX
 obtain⟨jP,dh,⟨od,Ux,Uy⟩,dY⟩:=iA.fX
 obtain⟨jz,bP,⟨os,Uz,pos⟩,eD⟩:=dY.fX
 have mf:=iE.trans (dh.trans bP)
 have T3:cy h3 jz:=((Fx.aj F4 C.nt).trans ((S6.trans S7).aj)).trans mf.aj
 exact k b u v z nd ops args sorts ae xs m9 jz h9 (Sg.trans mf) (Ck.up kb (dh.trans bP)) ⟨dx,_,od,mf _ _ (S7 _ _ (S6 _ _ (S4 _ _ e2))),lE,bP _ _ Ux,Uy⟩ ⟨t0,t1,t2,os,Uz,pos⟩ big (bk.up T3) eD (.cons (M9.tl (by decide +kernel) (P.at .hd)) (.cons M9.hd (.nil _)))
end
section
variable{Γ:Cx}{A:Around}{E:Value->Heap->Prop}{m:Str->Option Value}{ρ:List (Addr×Obj)}{l l₀ l₁:List Cell}{g h:Heap}{L:Addr}{r:Nat}{cs:List (Str×Addr)}{ns gs:List Str}{e:Expr}{pos:Pos}
theorem Fx.DU(F:Fx ρ g L m (l₀++(l++l₁)) h):∃G,Gr [] G h l/\Sub g G/\∀a p,(a,p)∈l₀->Gt G a p:=by
 obtain⟨G,x,s⟩:=Fx.gr (l₀:=l₀) (l:=l) (l₁:=l₁) F
 refine⟨G,x,s,λa p hm=>?_⟩
 obtain⟨o,e,po⟩:=F.get (List.mem_append_left _ hm)
 have nd:=F.own.nd
 replace nd:=aq▸aq▸nd
 exact⟨o,x.max _ _ e (λq=>(List.nodup_append.mp nd).2.2 _ (ax hm) _ (List.mem_append_left _ q) rfl) (λq=>nomatch q),po⟩
noncomputable def ue(r:Row):Bool×Int:=(r.1==U "app",match r.2.2.2 with| .inl f=>f| .inr _=>-1)
theorem Ay:∀n:Fin 9,3<=n.1->(bC[n.1]?.map λr=>((bC.take n.1).map ue).contains (ue r))=some false:=by decide +kernel
theorem Az{n i:Nat}{r:Row}{B':List Row}(h1:3<=n)(h2:n<9)(e:bC[n]? =some r)(m:Mk (bC.take n) r i B'):i=n/\B'=bC.take (n+1):=by
 have h:=Ay ⟨n,h2⟩ h1
 replace h:=(Option.map_some ..)▸(show bC[(⟨n,h2⟩:Fin 9).1]? =some r from e)▸h
 have nm:r∉bC.take n:=λq=>by
  have:=List.contains_iff_mem.mpr (List.mem_map_of_mem (f:=ue) q)
  replace this:=(Option.some.inj h)▸this
  cases this
 rcases m with⟨rfl,q,_⟩|⟨_,rfl,rfl⟩
 ·exact absurd (List.mem_of_getElem? q) nm
 ·refine⟨?_,by refine List.take_add_one.symm▸e.symm▸?_;rfl⟩
  refine List.length_take.symm▸?_
  exact Nat.min_eq_left (Nat.le_of_lt h2)
theorem CG{b:Mb}{u v tk tx:Tok}{z:Value}{bc kc:Addr}{xs:Str}{f:Nat}{kd:Int}{ys as rs ops args sorts ae:List Value}{xk:List (Row×Addr×Value)}{lt:List Cell}{Q:Value->Heap->Prop}{p1 p2 p3 p4 p5 p6 p7 p8 p9 FQ:Pos}{k0:Nat}{UA UB:Sem Bool}(C:Co Γ r ns gs cs)(hr:3<=r)(G:Gd g)(I:In w.params g b.x 638 (b.al (gX u v z)))(big:2<=b.nums)(kb:Ck g bc (.ref b.x))(hb:Kv cs (U "bank") bc)(hk:Kv cs (U "kind") kc)(hw:Gs ns (U "word"))(hm:m (U "word")=some (.str xs tx))
  (F:Fv Γ g m (l₀++(Av b ys as rs++(Bl (b.k (gX u v z)) ops args sorts ae xk++lt))) h)(hc:(kc,Ce (some (.int kd tk)))∈lt)(bk:Bk (b.k (gX u v z)) (bC.take (3+f)) ops args sorts ae xk g)(zy:ys.length=f)(za:as.length=f)(zr:rs.length=f)(hf:f<6)(Am:bC[3+f]? =some (U "app",[],kd,.inl (f:Int)))
  (k:∀t t' e' QD av ai af ag CH g' h',Sub g g'->Fv Γ g' m (l₀++(Av b (ys++[.str xs t']) (as++[e']) (rs++[.int kd QD])++(Bl (b.k (gX u v z)) av ai af ag CH++lt))) h'->Bk (b.k (gX u v z)) (bC.take (3+(f+1))) av ai af ag CH g'->Q (.int ((3+f:Nat):Int) t) h')
  (LP:eval (.Call (.Attribute (.Name (U "bank") p1) (U "app") p2) [.Call (.Attribute (.Name (U "bank") p3) (U "declare_fun") p4) [.Name (U "word") p5,.Tuple [] k0 p6,.Name (U "kind") p7] [] p8,.List [] p9] [] FQ) Γ.env=(do
   let ov <-eval (.Name (U "bank") p1) Γ.env
   standAt p2.atName
   let(f,first) <-holding [ov] (getMethod ov (U "app") UA)
   callWith FQ f first (backTo FQ (starEach [.Call (.Attribute (.Name (U "bank") p3) (U "declare_fun") p4) [.Name (U "word") p5,.Tuple [] k0 p6,.Name (U "kind") p7] [] p8,.List [] p9] Γ.env)) []))
  (Dj:eval (.Call (.Attribute (.Name (U "bank") p3) (U "declare_fun") p4) [.Name (U "word") p5,.Tuple [] k0 p6,.Name (U "kind") p7] [] p8) Γ.env=(do
   let ov <-eval (.Name (U "bank") p3) Γ.env
   standAt p4.atName
   let(f,first) <-holding [ov] (getMethod ov (U "declare_fun") UB)
   callWith p8 f first (backTo p8 (starEach [.Name (U "word") p5,.Tuple [] k0 p6,.Name (U "kind") p7] Γ.env)) [])):
  Wp Γ.A (eval (.Call (.Attribute (.Name (U "bank") p1) (U "app") p2) [.Call (.Attribute (.Name (U "bank") p3) (U "declare_fun") p4) [.Name (U "word") p5,.Tuple [] k0 p6,.Name (U "kind") p7] [] p8,.List [] p9] [] FQ) Γ.env) Q E h:=by
 have At:dS (b.k (gX u v z)):=Mb.Jz big
 obtain⟨ζ,ζ,ζ,ζ,ζ,ζ,a7⟩:=id At
 refine CX (Mb.qU (b:=b) (u:=u) (v:=v) (z:=z)) λa1 a2 a3 ζ ζ=>?_
 refine dH (ou (v:=.ref b.x) C hb kb F ?_) LP
 have S1:=Sub.refl g
 refine vC (k:=b.k (gX u v z)) (name:=U "app") (f:=406) At ((G.up S1).up F.keep) ((I.up S1).up F.keep) (Kv.mem (by k_extra "a")) ?_
 refine b_ (f:=406) (by k_extra "R") (by k_extra "R") (az ?_ (by k_extra "R")) (by k_extra "R")
 refine dH (ou (v:=.ref b.x) C hb (kb.up S1) F ?_) Dj
 have S2:=Sub.refl g
 refine vC (k:=b.k (gX u v z)) (name:=U "declare_fun") (f:=168) At (((G.up S1).up S2).up F.keep) (((I.up S1).up S2).up F.keep) (Kv.mem (by k_extra "a")) ?_
 refine b_ (f:=168) (by k_extra "R") (by k_extra "R") (az (ck (v:=.str xs tx) C hw hm F ?_) (by k_extra "R")) (by k_extra "R")
 have S3:=Sub.refl g
 refine az (cK (aC (bh F (by show 0<=1000;decide) λet g4 h4 S4 T4 F4=>?_))) (by k_extra "R")
 refine az (tZ (v:=.int kd tk) C hk (List.mem_append_right _ (List.mem_append_right _ (List.mem_append_right _ hc))) F4 ?_) (by k_extra "R")
 have S5:=Sub.refl g4
 have i4:=S1.trans (S2.trans (S3.trans (S4.trans S5)))
 have G5:=G.up i4
 refine aC ⟨G5.up F4.keep,?_⟩
 refine fF (Fx.DU F4) λG6 x6 S6 ζ=>?_
 refine Wp.call (wO x6 (G5.up S6) ((I.up i4).up S6) a1 a2 a3 a7 ((T4.up S5.aj).up S6.aj) (C.rm.less (by lia)) (by k_extra "z") (by k_extra "z") (by k_extra "z") λt7 h7 st=>?_)
 obtain⟨g7,S7,F7⟩:=Fx.ja (l₀:=l₀) F4 st
 refine az (bV (aC (c6 F7 (by show 0<=1000;decide) λsl g8 h8 S8 L8 F8=>?_))) (by k_extra "R")
 have tY:=i4.trans (S7.trans S8)
 have KA:Fv Γ g8 m ((l₀++Av b (ys++[.str xs tx]) (as++[.ref et]) (rs++[.int kd tk]))++(Bl (b.k (gX u v z)) ops args sorts ae xk++lt)) h8:=by refine(List.append_assoc ..).symm▸?_;exact F8
 refine fF (Fx.DU KA) λG9 x9 S9 c9=>?_
 refine aC ⟨((G.up tY)).up F8.keep,?_⟩
 refine zy.symm▸?_
 refine Wp.call (JC (k:=b.k (gX u v z)) (s:=kd) (ts:=tk) (e:=et) x9 ((G.up tY).up S9) ((I.up tY).up S9) At a2 a3 (bk.up ((tY.aj).trans F8.keep.aj)) (C.rm.less (by lia)) (by refine List.length_take.symm▸?_;exact Nat.le_trans (Nat.min_le_right _ _) (by decide)) (as:=as++[.ref et]) (rs:=rs++[.int kd tk]) (c9 _ _ (List.mem_append_right _ (.tail _ (.head _)))) (c9 _ _ (List.mem_append_right _ (.tail _ (.tail _ (.head _)))))
  (by refine za▸?_;simp) ((T4.up (S5.trans (S7.trans S8)).aj).up S9.aj) (by refine zr▸?_;simp) (L8.up S9) (by k_extra "z") λi t B' av ai af ag aO h' st b' mk=>?_)
 obtain⟨j7,ft,fC⟩:=Fx.ja (l₀:=l₀++Av b (ys++[.str xs tx]) (as++[.ref et]) (rs++[.int kd tk])) KA st
 refine i_ (Az (by k_extra "z") (by k_extra "z") Am mk) λak iO=>?_
 obtain rfl:=ak
 obtain rfl:=iO
 replace fC:=(List.append_assoc ..)▸fC
 exact k t tx (.ref et) tk av ai af ag aO j7 h' (tY.trans ft) fC (b'.up (Fx.aj fC C.nt))
end
section
variable{Γ:Cx}{E:Value->Heap->Prop}{m:Str->Option Value}{l:List Cell}{g h:Heap}{r:Nat}{cs:List (Str×Addr)}{ns gs:List Str}{e:Expr}{p1 p2 p3 p4:Pos}{k1 k2 k3:Nat}
inductive Kt(g:Heap)(v:Value)(kd:Int)(x y:Str):Prop
 |mk (a:Addr) (tk:Tok) (lw:Addr) (tx ty:Tok) (e:v= .ref a) (t:Tp g a [.int kd tk,.ref lw]) (l:Ls g lw [.str x tx,.str y ty]):Kt g v kd x y
theorem Kt.up{g h:Heap}{v:Value}{kd:Int}{x y:Str}(q:Kt g v kd x y)(s:Sub g h):Kt h v kd x y:=by
 cases q with|mk a b c d e f t u=>exact⟨a,b,c,d,e,f,t.up s.aj,u.up s⟩
theorem FX{x y:Str}{kd:Int}{Q:Value->Heap->Prop}(C:Co Γ r ns gs cs)(F:Fv Γ g m l h)(e0:Px Γ m l g e (.i kd))(k:∀v g' h',Sub g g'->Fv Γ g' m l h'->Kt g' v kd x y->Q v h')
  (h1:starEach [e,.List [.Constant (.str x) k1 p1,.Constant (.str y) k2 p2] p3] Γ.env=(false,eval e Γ.env)::starEach [.List [.Constant (.str x) k1 p1,.Constant (.str y) k2 p2] p3] Γ.env:=by rfl):Wp Γ.A (eval (.Tuple [e,.List [.Constant (.str x) k1 p1,.Constant (.str y) k2 p2] p3] k3 p4) Γ.env) Q E h:=by
 refine cK (az (e0.go _ _ g h (Sub.refl _) F λv g1 h1 S1 F1 q=>?_) h1)
 refine aP q λtk ak=>?_
 clear q
 obtain rfl:=ak
 refine az (bV (az (cJ λtx=>az (cJ λty=>aC (c6 F1 (by show 2<=1000;decide) λlw g2 h2 S2 L2 F2=>?_)))))
 refine aC (bh F2 (by show 2<=1000;decide) λa g3 h3 S3 T3 F3=>?_)
 exact k _ g3 h3 (S1.trans (S2.trans S3)) F3 ⟨a,tk,lw,tx,ty,rfl,T3,L2.up S3⟩
def DV(ns:List Value)(n:Nat):Prop:=ns.length=n/\∀q<n,∃t z,dQ[q]? =some z/\ns[q]? =some (.str z t)
theorem DV.snoc{ns:List Value}{n:Nat}{z:Str}{t:Tok}(x:DV ns n)(e:dQ[n]? =some z):DV (ns++[.str z t]) (n+1):=⟨by simp[x.1],λq hq=>by
 rcases Nat.lt_succ_iff_lt_or_eq.mp hq with h|rfl
 ·refine dm (x.2 q h) λt' z' e1 e2=>?_
  exact⟨t',z',e1,by rw[List.getElem?_append_left (by refine x.1.symm▸?_;exact h)];exact e2⟩
 ·exact⟨t,z,e,by refine(List.getElem?_append_right (Nat.le_of_eq x.1)).symm▸x.1.symm▸?_;simp⟩⟩
theorem six{a b c d e f:Value}{ns:List Value}(q0:ns[0]? =some a)(q1:ns[1]? =some b)(q2:ns[2]? =some c)(q3:ns[3]? =some d)(q4:ns[4]? =some e)(q5:ns[5]? =some f)(hl:ns.length=6):ns=[a,b,c,d,e,f]:=by
 refine List.ext_getElem? λi=>?_
 by_cases h:6<=i
 ·rw[List.getElem?_eq_none (by k_extra "z"),List.getElem?_eq_none (by simpa using h)]
 ·obtain rfl|rfl|rfl|rfl|rfl|rfl:i=0\/i=1\/i=2\/i=3\/i=4\/i=5:=by lia
  all_goals assumption
theorem DV.fn{fn:Addr}{ns:List Value}(x:DV ns 6)(l:Ls g fn ns):Fn fn g:=by
 refine i_ x λhl k=>?_
 clear x
 refine dm (k 0 (by decide)) λt0 z0 e0 q0=>?_
 refine dm (k 1 (by decide)) λt1 z1 e1 q1=>?_
 refine dm (k 2 (by decide)) λt2 z2 e2 q2=>?_
 refine dm (k 3 (by decide)) λt3 z3 e3 q3=>?_
 refine dm (k 4 (by decide)) λt4 z4 e4 q4=>?_
 refine dm (k 5 (by decide)) λt5 z5 e5 q5=>?_
 refine⟨t0,t1,t2,t3,t4,t5,?_⟩
 refine(Option.some.inj e0).symm▸(Option.some.inj e1).symm▸(Option.some.inj e2).symm▸(Option.some.inj e3).symm▸(Option.some.inj e4).symm▸(Option.some.inj e5).symm▸(six q0 q1 q2 q3 q4 q5 hl)▸?_
 exact l
def FY(g:Heap)(i:Nat)(kvs:List (Int×Value))(l0 l1 l2:Addr):Prop:=kvs=[((0:Int),Value.ref l0),(1,.ref l1),(2,.ref l2)].take i/\(0<i->Nm g l0 3)/\(1<i->Nm g l1 5)/\(2<i->Nm g l2 7)
theorem FY.up{i:Nat}{kvs:List (Int×Value)}{l0 l1 l2:Addr}(x:FY g i kvs l0 l1 l2)(s:Sub g h):FY h i kvs l0 l1 l2:=⟨x.1,λq=>(x.2.1 q).up s,λq=>(x.2.2.1 q).up s,λq=>(x.2.2.2 q).up s⟩
theorem FY.step{i:Nat}{kvs:List (Int×Value)}{l0 l1 l2 a:Addr}(x:FY g i kvs l0 l1 l2)(hi:i<3)(n:Nm g a (3+2*i)):∃UC UD UE,FY g (i+1) (stored kvs (i:Int) (.ref a)) UC UD UE:=by
 refine JQ x λak n0 n1 n2=>?_
 clear x
 obtain rfl:=ak
 obtain rfl|rfl|rfl:i=0\/i=1\/i=2:=by lia
 ·exact⟨a,a,a,by simp[stored],λζ=>n,λq=>absurd q (by decide),λq=>absurd q (by decide)⟩
 ·exact⟨l0,a,a,by simp[stored],λζ=>n0 (by decide),λζ=>n,λq=>absurd q (by decide)⟩
 ·exact⟨l0,l1,a,by simp[stored],λζ=>n0 (by decide),λζ=>n1 (by decide),λζ=>n⟩
theorem FZ{i j:Nat}(hi:i<3)(hj:j<2):bC[3+(2*i+j)]? =some (U "app",[],(i:Int),.inl ((2*i+j:Nat):Int)):=by
 rcases i with _|_|_|i
 ·rcases j with _|_|j <;> first|rfl|exact absurd hj (by simp)
 ·rcases j with _|_|j <;> first|rfl|exact absurd hj (by simp)
 ·rcases j with _|_|j <;> first|rfl|exact absurd hj (by simp)
 ·exact absurd hi (by simp)
end
section
variable{Γ:Cx}{E:Value->Heap->Prop}{m:Str->Option Value}{l:List Cell}{g h:Heap}{r:Nat}{cs:List (Str×Addr)}
theorem AA{ys:List Value}{a c:Int}(x:IntsAre ys [a,c]):∃t u,ys=[.int a t,.int c u]:=by
 cases x with|cons _ t x=>
 cases x with|cons _ u x=>
 cases x
 exact⟨t,u,rfl⟩
inductive Nr(b:Mb)(ex:List (Str×Value))(nd fd:Addr)(fc:Cell)(kc:Addr)(lt:List Cell)(i:Nat)(g:Heap)(m:Str->Option Value)(l:List Cell):Prop
 |mk (kvs:List (Int×Value)) (ns as rs:List Value) (uk:Option Value) (ops args sorts ae:List Value) (xk:List (Row×Addr×Value)) (a0 a1 a2:Addr) (P:Ps m [(U "feed",.ref fd),(U "names",.ref nd)]) (e:l=ZI nd kvs::(Av b ns as rs++(Bl (b.k ex) ops args sorts ae xk++(fc::(kc,Ce uk)::lt)))) (bk:Bk (b.k ex) (bC.take (3+2*i)) ops args sorts ae xk g) (fp:DV ns (2*i)) (za:as.length=2*i) (zr:rs.length=2*i) (kv:FY g i kvs a0 a1 a2):Nr b ex nd fd fc kc lt i g m l
inductive Nc(b:Mb)(ex:List (Str×Value))(fc c1 c2 c3:Cell)(lt:List Cell)(f j:Nat)(ys:List Value)(g:Heap)(l:List Cell):Prop
 |mk (ns as rs ops args sorts ae:List Value) (xk:List (Row×Addr×Value)) (e:l=c1::c2::(Av b ns as rs++(Bl (b.k ex) ops args sorts ae xk++(fc::c3::lt)))) (bk:Bk (b.k ex) (bC.take (3+(f+j))) ops args sorts ae xk g) (fp:DV ns (f+j)) (za:as.length=f+j) (zr:rs.length=f+j) (wD:IntsAre ys ((List.range j).map λq=>((3+(f+q):Nat):Int))) (hj:j<=2):Nc b ex fc c1 c2 c3 lt f j ys g l
theorem wU{b:Mb}{u v:Tok}{z:Value}{bc kc nd fd:Addr}{fc:Cell}{lt:List Cell}{ops args sorts ae:List Value}{xk:List (Row×Addr×Value)}{Q:Flow->Heap->Prop}(C:Co Γ r AY AZ [(U "kind",kc),(U "bank",bc)])(hr:5<=r)(hE:Γ.env=callEnvC (uc w.params) Γ.L 836)(EE:kc=Γ.L+1+1)(JE:bc=Γ.L+1)(G:Gd g)(kb:Ck g bc (.ref b.x))(I:In w.params g b.x 638 (b.al (gX u v z)))(big:2<=b.nums)(bk:Bk (b.k (gX u v z)) [ik,oQ,t_] ops args sorts ae xk g)
  (F:Fv Γ g m (ZI nd []::(Av b [] [] []++(Bl (b.k (gX u v z)) ops args sorts ae xk++(fc::(kc,Ce none)::lt)))) h)(P:Ps m [(U "feed",.ref fd),(U "names",.ref nd)])
  (k:∀uk l0 l1 l2 av ai af ag CH m' g' h',Sub g g'->Nm g' l0 3->Nm g' l1 5->Nm g' l2 7->Dd (intKind PW w) g' nd [(0,.ref l0),(1,.ref l1),(2,.ref l2)]->Fn b.fn g'->Bk (b.k (gX u v z)) bC av ai af ag CH g'->Fv Γ g' m' (Bl (b.k (gX u v z)) av ai af ag CH++(fc::(kc,Ce uk)::lt)) h'->Ps m' [(U "feed",.ref fd),(U "names",.ref nd)]->Wp Γ.A (execs ((cD (st 38)).drop 4) Γ.env) Q E h'):Wp Γ.A (execs ((cD (st 38)).drop 3) Γ.env) Q E h:=by
 refine ab λQ0 me=>?_
 refine lG (E₁:=λζ ζ=>False) Γ.ρ Γ.L C.rm.hd ?_ (λe h (q:False)=>q.elim) (by intro _;k_extra "R")
 refine cK (az (FX C F Px.int (λv1 g1 h1 S1 F1 K1=>?_) (by k_extra "R")) (by k_extra "R"))
 refine az (FX C F1 (kd:=1) (Px.o3 (Px.glob C (G.up S1) (by k_extra "a") (by k_extra "a"))) (λv2 g2 h2 S2 F2 K2=>?_) (by k_extra "R")) (by k_extra "R")
 refine az (FX C F2 (kd:=2) (Px.o3 (Px.glob C ((G.up S1).up S2) (by k_extra "a") (by k_extra "a"))) (λv3 g3 h3 S3 F3 K3=>?_) (by k_extra "R")) (by k_extra "R")
 refine aC (bh F3 (by show 3<=1000;decide) λa g4 h4 S4 T4 F4=>?_)
 have dy:=S1.trans (S2.trans (S3.trans S4))
 have hK:∀(i:Nat) (v:Value),i<3->[v1,v2,v3][i]? =some v->∃x y,dQ[2*i]? =some x/\dQ[2*i+1]? =some y/\Kt g4 v (i:Int) x y:=λi v hi hv=>by
  obtain rfl|rfl|rfl:i=0\/i=1\/i=2:=by lia
  ·cases hv;exact⟨_,_,rfl,rfl,K1.up (S2.trans (S3.trans S4))⟩
  ·cases hv;exact⟨_,_,rfl,rfl,K2.up (S3.trans S4)⟩
  ·cases hv;exact⟨_,_,rfl,rfl,K3.up S4⟩
 refine⟨3,λi v=>[v1,v2,v3][i]? =some v,λi g1 m1 l1=>Sub g4 g1/\Nr b (gX u v z) nd fd fc kc lt i g1 m1 l1,g4,m,_,F4,Src.tup T4,⟨Sub.refl _,[],[],[],[],none,ops,args,sorts,ae,xk,0,0,0,P,rfl,bk.lf dy,⟨rfl,λq hq=>absurd hq (Nat.not_lt_zero _)⟩,rfl,rfl,rfl,λq=>absurd q (by decide),λq=>absurd q (by decide),λq=>absurd q (by decide)⟩,?_,?_⟩
 ·rintro i v g5 m5 l5 h5 it p hi hv ⟨S5,⟨kvs,ns,as,rs,uk,ops,args,sorts,ae,xk,a0,a1,a2,P5,rfl,Ob,fp,za,zr,kv⟩⟩ F5
  refine fv (hK i v hi hv) λx y ex ey q=>?_
  obtain⟨ta,tk,lw,tx,ty,rfl,T,Lw⟩:=q.up S5
  refine eK C.rm.hd F5 (T.up F5.keep.aj) (by k_extra "R") (by k_extra "R") λg6 h6 S6 F6=>?_
  refine cL (aY (dC (v:=.int (i:Int) tk) C F6 (by k_extra "a") (.tl (.tl (.tl (.tl (.tl (.tl (.tl (.tl (.tl (.tl (.tl .hd))))))))))) λh7 F7=>?_))
  refine cL (aY (aA C F7 (by k_extra "a") λm8 h8 F8 M8=>eM ?_))
  replace F8:Fv Γ g6 m8 ((it,p)::ZI nd kvs::(Av b ns as rs++(Bl (b.k (gX u v z)) ops args sorts ae xk++(fc::(kc,Ce (some (.int (i:Int) tk)))::lt)))) h8:=F8
  have P8:Ps m8 [(U "feed",.ref fd),(U "names",.ref nd)]:=P5.st M8 (by kernel_rfl)
  have UG:=M8.hd
  have jU:=dy.trans (S5.trans S6)
  refine au (jL (ky (n:=2) (P:=λj v=>[Value.str x tx,.str y ty][j]? =some v) Γ.ρ Γ.L C.rm.hd C.ev C.ec (cl:=[(U "kind",kc),(U "bank",bc)]) (gs':=[]) (by simp) (by refine hE.symm▸EE.symm▸JE.symm▸?_;k_extra "R") (by kernel_rfl)
   (λj ys g l=>Sub g6 g/\Nc b (gX u v z) fc (it,p) (ZI nd kvs) (kc,Ce (some (.int (i:Int) tk))) lt (2*i) j ys g l) (λj ys g l q=>?_) ?_ ?_ (by intro _;k_extra "R")) (by k_extra "R"))
  ·obtain⟨ζ,⟨ζ,ζ,ζ,ζ,ζ,ζ,ζ,ζ,ζ,ζ,ζ,ζ,ζ,q,hj⟩⟩:=q
   have:=cp q
   simp at this;k_extra "z"
  ·refine ck (v:=.ref lw) C (by k_extra "a") UG F8 ?_
   have S9:=Sub.refl g6
   refine⟨g6,m8,_,F8,Src.list (Lw.up (S6.trans S9)),λg' S'=>⟨S9.trans S',ns,as,rs,ops,args,sorts,ae,xk,rfl,Ob.lf (S6.trans (S9.trans S')),fp,za,zr,.nil,by decide⟩,λD ys j7 iU Ws oE q NR iE iA=>?_⟩
   obtain⟨ζ,⟨AJ,UH,GN,av,ai,af,ag,CH,rfl,F0,UI,UJ,UK,wD,ζ⟩⟩:=q
   obtain⟨jP,dh,hD,dY⟩:=Fx.freeze iA
   refine ck (v:=.ref nd) C (by k_extra "a") (by k_extra "w") dY ?_
   have bP:=Sub.refl jP
   refine tZ (v:=.int (i:Int) tk) C (by k_extra "a") (.tail _ (.tail _ (.tail _ (.tail _ (.tail _ (.tail _ (.tail _ (.tail _ (.tail _ (.tail _ (.tail _ (.head _)))))))))))) dY ?_
   have JF:=Sub.refl jP
   refine nE (AA (a:=((3+(2*i+0):Nat):Int)) (c:=((3+(2*i+1):Nat):Int)) wD) λt1 t2 ak=>?_
   obtain rfl:=ak
   have DR:=dh.trans (bP.trans JF)
   have Sf:Sub g5 jP:=S6.trans (S9.trans (iE.trans DR))
   have UL:=kv.up Sf
   refine HB (knd:=intKind PW w) (c:=(i:Int)) dY (.tl .hd) (intKind_is PW w _ _) (by refine kv.1.symm▸?_;simp;k_extra "z") λH0 DN=>?_
   refine JR (UL.step hi ⟨t1,t2,hD.up (bP.trans JF)⟩) λb0 b1 b2 UM=>?_
   exact aB ⟨jP,m8,_,DN,Sf,S5.trans Sf,_,AJ,UH,GN,some (.int (i:Int) tk),av,ai,af,ag,CH,b0,b1,b2,P8,rfl,(F0.up (NR.trans DR.aj)),UI,UJ,UK,UM⟩
  ·rintro j v ys g9 l9 h9 UN p2 D C' cB hj hv ⟨S9,⟨ns,as,rs,ops,args,sorts,ae,xk,rfl,UO,fp,za,zr,wD,_⟩⟩ O Cc F9
   have C2:Co ⟨Γ.A,cB,Γ.ρ,C'⟩ r [U "word"] [] [(U "kind",kc),(U "bank",bc)]:=⟨C.rm,O,Cc,C.nt⟩
   obtain⟨wz,wt,rfl,ew⟩:∃wz wt,v= .str wz wt/\dQ[2*i+j]? =some wz:=by
    obtain rfl|rfl:j=0\/j=1:=by lia
    ·cases hv;exact⟨_,_,rfl,ex⟩
    ·cases hv;exact⟨_,_,rfl,ey⟩
   have Cu:=jU.trans S9
   refine lz ?_
   refine CG (xs:=wz) (tx:=wt) (l₀:=[(UN,p2),(D,Lo ys),(it,p),ZI nd kvs]) C2 (by lia) (G.up Cu) (I.up Cu) big (kb.up Cu) (by k_extra "a") (by k_extra "a") (by k_extra "a") (by simp[mv]) F9 (.tail _ (.head _)) UO fp.1 za zr (by lia) (FZ hi hj) (λt t' e' QD av ai af ag CH j7 oE ft fC F0=>?_) (by k_extra "R") (by k_extra "R")
   exact⟨j7,_,fC,ft,S9.trans ft,_,_,_,av,ai,af,ag,CH,rfl,F0,fp.snoc ew,by simp[za];lia,by simp[zr];lia,by
    refine List.range_succ.symm▸List.map_append.symm▸?_
    exact ints_snoc wD _ _,by lia⟩
 ·rintro g5 m5 l5 h5 g6 ⟨S5,⟨kvs,ns,as,rs,uk,ops,args,sorts,ae,xk,a0,a1,a2,P5,rfl,Ob,fp,za,zr,kv⟩⟩ S6 F6
  obtain⟨g7,S7,⟨on,en,pn⟩,F7⟩:=F6.fX
  obtain⟨g8,S8,⟨of,ef,pf⟩,F8⟩:=Fx.fX (a:=b.fn) (p:=Lo ns) F7
  obtain⟨g9,S9,ζ,F9⟩:=Fx.fX (a:=b.fa) (p:=Lo as) F8
  obtain⟨j7,ft,ζ,fC⟩:=Fx.fX (a:=b.fr) (p:=Lo rs) F9
  have JG:=S6.trans (S7.trans (S8.trans (S9.trans ft)))
  refine JQ kv λak n0 n1 n2=>?_
  clear kv
  obtain rfl:=ak
  refine me.go ?_
  exact k uk a0 a1 a2 ops args sorts ae xk m5 j7 h5 (dy.trans (S5.trans JG)) ((n0 (by decide)).up JG) ((n1 (by decide)).up JG) ((n2 (by decide)).up JG) ⟨on,ft _ _ (S9 _ _ (S8 _ _ en)),pn⟩ (DV.fn fp ⟨of,ft _ _ (S9 _ _ ef),pf⟩) (Ob.lf JG) fC P5
end
section
variable{Γ:Cx}{E:Value->Heap->Prop}{m:Str->Option Value}{l l₀ l₁:List Cell}{g h:Heap}{r:Nat}{cs:List (Str×Addr)}{ns gs:List Str}{e:Expr}{pos:Pos}
theorem aD.of{a:Addr}{n d:Int}{t u:Tok}(T:Tp g a [.int n t,.int d u]):aD g (.ref a) (.inr (n,d)):=⟨a,t,u,rfl,T⟩
theorem oV{a:Int}(h1: -1000<=a)(h2:a<=1000):Bt 20 a:=by unfold Bt;lia
def CI(g:Heap)(pl:List Value)(i:Nat):Prop:=pl.length=i/\∀v∈pl,∃p pt,v= .ref p/\Po pt p g/\n9 pt
theorem CI.up{pl:List Value}{i:Nat}(x:CI g pl i)(s:Sub g h):CI h pl i:=⟨x.1,λv hv=>let⟨p,pt,a,b,c⟩:=x.2 v hv;⟨p,pt,a,b.up s,c⟩⟩
theorem CI.snoc{pl:List Value}{i:Nat}{p:Addr}{pt:Pt}(x:CI g pl i)(a:Po pt p g)(b:n9 pt):CI g (pl++[.ref p]) (i+1):=⟨by simp[x.1],λv hv=>by
 rcases List.mem_append.mp hv with q|q
 ·exact x.2 v q
 ·refine(List.mem_singleton.mp q).symm▸?_;exact⟨p,pt,rfl,a,b⟩⟩
theorem CI.UP{pa:Addr}{pl:List Value}(x:CI g pl 2)(e:Ls g pa pl):∃p0 p1 iF iG,qY pa p0 p1 iF iG g:=by
 refine i_ x λhl k=>?_
 clear x
 have e0:pl[0]? =some (pl[0]'(by lia)):=List.getElem?_eq_getElem _
 have e1:pl[1]? =some (pl[1]'(by lia)):=List.getElem?_eq_getElem _
 refine fv (k _ (List.mem_of_getElem? e0)) λp0 iF q0 a0 b0=>?_
 refine fv (k _ (List.mem_of_getElem? e1)) λp1 iG q1 a1 b1=>?_
 replace e0:=q0▸e0
 replace e1:=q1▸e1
 refine⟨p0,p1,iF,iG,?_,a0,a1,b0,b1⟩
 rw[<-show pl=[.ref p0,.ref p1] from List.ext_getElem? λi=>by
  by_cases h:2<=i
  ·rw[List.getElem?_eq_none (by k_extra "z"),List.getElem?_eq_none (by simpa using h)]
  ·obtain rfl|rfl:i=0\/i=1:=by lia
   ·exact e0
   ·exact e1]
 exact e
noncomputable abbrev GO(p:Bool)(vi vj:Value):List (Str×Value):=[(U "p",.bool p),(U "i",vi),(U "j",vj)]
noncomputable abbrev JH(vu vv:Value):List (Str×Value):=[(U "u",vu),(U "v",vv)]
theorem jG(p:Bool)(vi vj vu vv:Value):merged [] (GO p vi vj)=GO p vi vj/\merged [] (JH vu vv)=JH vu vv/\merged (GO p vi vj) (JH vu vv)=GO p vi vj++JH vu vv:=⟨by k_extra "R",by k_extra "R",by k_extra "R"⟩
end
section
variable{Γ:Cx}{E:Value->Heap->Prop}{m:Str->Option Value}{l l₀ l₁ lb:List Cell}{g h:Heap}{r:Nat}{cs:List (Str×Addr)}{ns gs:List Str}{e:Expr}{pos:Pos}
theorem oW(x y:Value):merged [] [(U "bank",x),(U "names",y)]=[(U "bank",x),(U "names",y)]:=by k_extra "R"
theorem uf{x:Addr}{bc kc nd fd cl:Addr}{tn ts:Tok}{s:Int}{Q:Flow->Heap->Prop}(C:Co Γ r AY AZ [(U "kind",kc),(U "bank",bc)])(hr:5<=r)(hE:Γ.env=callEnvC (uc w.params) Γ.L 836)(G:Gd g)(kb:Ck g bc (.ref x))(hc:Cs g cl)
  (F:Fv Γ g m (lb++([Fd fd cl 0 tn s ts]++l₁)) h)(P:Ps m [(U "feed",.ref fd),(U "names",.ref nd)])
  (k:∀wd pa n cR m' g' h',n<=6->Sub g g'->Dd (strKind PW w) g' wd [(U "bank",.ref x),(U "names",.ref nd)]->(∃p0 p1 iF iG,qY pa p0 p1 iF iG g')->Fv Γ g' m' (lb++([Fd fd cl n cR s ts]++l₁)) h'->Ps m' [(U "feed",.ref fd),(U "world",.ref wd),(U "points",.ref pa)]->Wp Γ.A (execs ((cD (st 38)).drop 6) Γ.env) Q E h'):Wp Γ.A (execs ((cD (st 38)).drop 4) Γ.env) Q E h:=by
 refine ab λQ0 me=>?_
 refine je (cK (az (kC (strKind PW w) F λwd h1 ζ F1=>?_) (by k_extra "R"))) (by k_extra "R") (by refine hE.symm▸?_;k_extra "R")
 refine cu (cJ λt1=>ou (v:=.ref x) C (by k_extra "a") kb F1 ?_)
 have S2:=Sub.refl g
 refine cu (cJ λt2=>ck (v:=.ref nd) C (by k_extra "a") (by k_extra "w") F1 ?_)
 have S3:=Sub.refl g
 refine i6 ⟨[(U "bank",.ref x),(U "names",.ref nd)],g,m,_,⟨strKind_is PW w _ _,rfl,strKind_is PW w _ _,rfl,trivial⟩,F1,λh4 F4=>?_⟩
 replace F4:=(oW ..)▸F4
 obtain⟨g5,S5,Od,F5⟩:=F4.fX
 refine az (bV (aC (gJ F5 (by show 0<=1000;decide) λpa h6 F6=>?_))) (by k_extra "R")
 refine aC (bh F6 (by show 2<=1000;decide) λb g7 h7 S7 T7 F7=>?_)
 refine kJ C.rm.hd F7 (T7.up F7.keep.aj) rfl λg8 h8 S8 F8=>?_
 refine sE (cL (kK (aA C F8 (by k_extra "a") λm9 h9 F9 M9=>?_)))
 refine cL (kK (aA C F9 (by k_extra "a") λoF oE fC wu=>?_))
 refine eM (me.go ?_)
 have Sg:Sub g g8:=S2.trans (S3.trans (S5.trans (S7.trans S8)))
 have Od:Dd (strKind PW w) g8 wd [(U "bank",.ref x),(U "names",.ref nd)]:=Dd.up (g:=g5) Od (S7.trans S8)
 have AS:Ps oF [(U "feed",.ref fd),(U "world",.ref wd),(U "points",.ref pa)]:=.cons (by k_extra "w") (.cons (by k_extra "w") (.cons (by k_extra "w") (.nil _)))
 clear F F1 F4 F5 F6 F7 F8 F9 M9 wu
 refine ab λQ1 gE=>?_
 refine gQ (n:=2) (P:=λi v=>∃t,v= .int (i:Int) t) Γ.ρ Γ.L C.rm.hd (λi g1 m1 l1=>Sub g8 g1/\Ps m1 [(U "feed",.ref fd),(U "world",.ref wd),(U "points",.ref pa)]/\∃pl n tn,l1=(pa,Lo pl)::(lb++([Fd fd cl n tn s ts]++l₁))/\n<=3*i/\CI g1 pl i) ?_ ?_ ?_ (by intro _;k_extra "R")
 ·refine bw (iC C (G.up Sg) (v:=.type "range") (by k_extra "a") (by k_extra "a") fC ?_) (by k_extra "R")
  have S9:=Sub.refl g8
  refine dU (az (dT λt=>aC (om (n:=2) fC (by decide) λrr iU nh iE UQ iA=>?_)) (by k_extra "R")) (by k_extra "R") (by k_extra "R")
  exact⟨iU,oF,_,iA,UQ,S9.trans iE,AS,[],0,tn,rfl,Nat.zero_le _,rfl,λv hv=>nomatch hv⟩
 ·rintro i v iU AU UR nh it p hi ⟨tl,rfl⟩ ⟨iE,DC,pl,n,tn,rfl,hn,ps⟩ iA
  have qC:i<2:=hi
  refine aY (aA C iA (by k_extra "a") λuW wF dY PK=>?_)
  have DE:Ps uW [(U "feed",.ref fd),(U "world",.ref wd),(U "points",.ref pa),(U "lap",.int (i:Int) tl)]:=.cons (by k_extra "w") (.cons (by k_extra "w") (.cons (by k_extra "w") (.cons (by k_extra "w") (.nil _))))
  have j4:=(hc.lf Sg).lf iE
  have KC:=(G.up Sg).up iE
  refine ab λQ2 iZ=>?_
  refine aZ (kC (strKind PW w) dY λpd o4 ζ eD=>?_) (by k_extra "R")
  refine cu (cJ λt1=>gH (dk (l₀:=(pd,Do (strKind PW w) [])::(it,p)::(pa,Lo pl)::lb) (W:=2) C (by lia) eD KC j4 (by k_extra "a") (by k_extra "a") (by k_extra "w") (by k_extra "z") rfl (by decide) (λv1 t3 US AV zY Pc dy mB=>?_) (by k_extra "R")) (by k_extra "R"))
  refine ck (v:=.int (i:Int) tl) C (by k_extra "a") (by k_extra "w") mB ?_
  have i4:=Sub.refl AV
  refine vg ?_
  have F_:=dy.trans i4
  refine cu (cJ λt4=>cK (az (gI (dk (l₀:=(pd,Do (strKind PW w) [])::(it,p)::(pa,Lo pl)::lb) (W:=9) C (by lia) mB (KC.up F_) (j4.lf F_) (by k_extra "a") (by k_extra "a") (by k_extra "w") (by k_extra "z") rfl (by decide) (λv2 t5 UT NJ Qo Pf jU DO=>?_) (by k_extra "R"))) (by k_extra "R")))
  refine dT λt6=>nI λt7=>az (dT λt8=>aC (bh DO (by show 2<=1000;decide) λia Jn Jo mf UU DP=>?_)) (by k_extra "R")
  refine cu (cJ λt9=>(Px.pair C.nt (Px.sub Px.int (Px.o3 (Px.local C (by k_extra "a") (by k_extra "w")))) Px.int (by k_extra "R") (by k_extra "R")).go _ _ Jn Jo (Sub.refl _) DP λvj Jp NL tY DQ qj=>?_)
  refine i6 ⟨GO (v1==(i:Int)) (.ref ia) vj,Jp,uW,_,⟨strKind_is PW w _ _,rfl,strKind_is PW w _ _,rfl,strKind_is PW w _ _,rfl,trivial⟩,DQ,λKw AX=>?_⟩
  replace AX:=((jG _ _ _ .none .none).1)▸AX
  refine aA C AX (by k_extra "a") λOf Kx Ct UW=>iZ.go ?_
  have Wu:Ps Of [(U "feed",.ref fd),(U "world",.ref wd),(U "points",.ref pa),(U "lap",.int (i:Int) tl),(U "point",.ref pd)]:=.cons (by k_extra "w") (.cons (by k_extra "w") (.cons (by k_extra "w") (.cons (by k_extra "w") (.cons (by k_extra "w") (.nil _)))))
  have JI:=F_.trans (jU.trans (mf.trans tY))
  clear dY eD mB DO DP DQ AX PK UW
  refine ab λQ3 lZ=>?_
  refine kF (dH (ck (v:=.ref pd) C (by k_extra "a") (by k_extra "w") Ct ?_) (by k_extra "R")) (by refine hE.symm▸?_;k_extra "R") (by k_extra "R")
  have QE:=Sub.refl Jp
  refine wQ (let⟨o,e,q⟩:=Ct.get (.head _);⟨o,e,q.1⟩) ?_
  refine eY (az (kC (strKind PW w) Ct λud Wv UX QF=>?_) (by k_extra "R")) (by k_extra "R")
  have Ga:=JI.trans QE
  refine cu (cJ λt1=>cK (az (gI (dk (l₀:=(ud,Do (strKind PW w) [])::(pd,Do (strKind PW w) (GO (v1==(i:Int)) (.ref ia) vj))::(it,p)::(pa,Lo pl)::lb) (W:=11) C (by lia) QF (KC.up Ga) (j4.lf Ga) (by k_extra "a") (by k_extra "a") (by k_extra "w") (by k_extra "z") rfl (by decide) (λv3 t5 UY UZ U0 Ph U4 QG=>?_) (by k_extra "R"))) (by k_extra "R")))
  refine dT λt6=>nI λt7=>az ((Px.add Px.int (Px.o3 (Px.local C (by k_extra "a") (by k_extra "w")))).go _ _ UZ U0 (Sub.refl _) QG λvl Ww Wx w3 QH ql=>?_) (by k_extra "R")
  refine aP ql λt8 ak=>?_
  clear ql
  obtain rfl:=ak
  refine aC (bh QH (by show 2<=1000;decide) λua U5 U6 GK U7 QI=>?_)
  have bi:Bt 20 (i:Int):=oV (by lia) (by lia)
  refine cu (cJ λt9=>(Px.pair C.nt (Px.sub (Px.mul (n:=20) (k:=20) Px.int (Px.o3 (Px.local C (by k_extra "a") (by k_extra "w"))) (oV (by decide) (by decide)) bi (by decide)) Px.int) Px.int (by k_extra "R") (by k_extra "R")).go _ _ U5 U6 (Sub.refl _) QI λvv QJ Wy QK QL qv=>?_)
  refine i6 ⟨JH (.ref ua) vv,QJ,Of,_,⟨strKind_is PW w _ _,rfl,strKind_is PW w _ _,rfl,trivial⟩,QL,λWz KD=>?_⟩
  replace KD:=((jG true .none .none _ _).2.1)▸KD
  have U8:2<=ud:=by
   refine UX.symm▸?_
   exact Nat.le_of_lt (Nat.lt_of_le_of_lt (show 2<=743 by decide) (Heap.lt_size (Ct.keep _ _ (kP (KC.up Ga)))))
  refine aC (Au KD U8 (by show 3+2<=10000;decide) λWB KG=>⟨rfl,lZ.go ?_⟩)
  replace KG:=((jG _ _ _ _ _).2.2)▸KG
  obtain⟨WC,Og,ζ,QM⟩:=KG.fX
  obtain⟨KH,Oh,O4,KI⟩:=QM.fX
  have Oi:=QE.trans (U4.trans (w3.trans (GK.trans QK)))
  have Gb:=Oi.trans (Og.trans Oh)
  have po:Po ⟨v1==(i:Int),((v2:Int)-4,1),(3-(i:Int),1),((v3:Int)-5,1+(i:Int)),(2*(i:Int)-1,3)⟩ pd KH:=⟨.ref ia,vj,.ref ua,vv,O4,aD.of (UU.up (tY.trans Gb).aj),aD.up (show aD Jp vj (.inr (3-(i:Int),1)) from qj) Gb.aj,aD.of (U7.up (QK.trans (Og.trans Oh)).aj),aD.up (show aD QJ vv (.inr (2*(i:Int)-1,3)) from qv) (Og.trans Oh).aj⟩
  have b1:Bt 20 (1:Int):=oV (by decide) (by decide)
  have b3:Bt 20 (3:Int):=oV (by decide) (by decide)
  have p1:(0:Int)<1:=by decide
  have p3:(0:Int)<3:=by decide
  have ok:n9 ⟨v1==(i:Int),((v2:Int)-4,1),(3-(i:Int),1),((v3:Int)-5,1+(i:Int)),(2*(i:Int)-1,3)⟩:=⟨⟨oV (by simp;lia) (by simp;lia),b1,p1⟩,⟨oV (by simp;lia) (by simp;lia),b1,p1⟩,⟨oV (by simp;lia) (by simp;lia),oV (by simp;lia) (by simp;lia),by simp;lia⟩,⟨oV (by simp;lia) (by simp;lia),b3,p3⟩⟩
  clear Ct QF QG QH QI QL KD KG QM
  refine au (kF (dH (ck (v:=.ref pa) C (by k_extra "a") (by k_extra "w") KI ?_) (by k_extra "R")) (by refine hE.symm▸?_;k_extra "R") (by k_extra "R"))
  have QN:=Sub.refl KH
  refine jl (KI.ls (.tail _ (.head _))) ?_
  refine eY (az (ck (v:=.ref pd) C (by k_extra "a") (by k_extra "w") KI ?_) (by k_extra "R")) (by k_extra "R")
  have QO:=Sub.refl KH
  refine aC (yS KI (.tl .hd) (by refine ps.1.symm▸?_;k_extra "z") λWD U9=>⟨rfl,aB ?_⟩)
  have Se:=JI.trans (Gb.trans (QN.trans QO))
  exact⟨KH,Of,_,U9,Se,iE.trans Se,.cons (by k_extra "w") (.cons (by k_extra "w") (.cons (by k_extra "w") (.nil _))),_,_,_,rfl,by lia,(ps.up Se).snoc (po.up (QN.trans QO)) ok⟩
 ·rintro iU AU UR nh jP ⟨iE,DC,pl,n,tn,rfl,hn,ps⟩ dh dY
  obtain⟨jz,bP,hl,eD⟩:=dY.freeze
  refine gE.go ?_
  exact k wd pa n tn AU jz nh hn (Sg.trans (iE.trans (dh.trans bP))) (Od.up (iE.trans (dh.trans bP))) ((ps.up (dh.trans bP)).UP hl) eD DC
end
noncomputable def oX:List Stmt:=match DY (cD (st 38)) 6 with| .For _ _ b _ _=>b|_=>[]
noncomputable abbrev Lr(fd cl:Addr)(n:Nat)(tn:Tok)(s:Int)(ts:Tok)(kc:Addr)(uk:Option Value)(ps qs rs:Array Value)(lx:List Cell):List Cell:=Fd fd cl n tn s ts::(kc,Ce uk)::(804,Tb ps)::(809,Tb qs)::(821,Tb rs)::lx
section
variable{W:WA}{Γ:Cx}{E:Value->Heap->Prop}{m:Str->Option Value}{l l₀ l₁ lx:List Cell}{g g' h:Heap}{r:Nat}{cs:List (Str×Addr)}{ns gs:List Str}{e1 e2:Expr}{pos:Pos}{b b':BS}
theorem nq{fd cl:Addr}{n W k1 k2:Nat}{tn ts:Tok}{s c c1 a d:Int}{p p1 p2 p3 p4 p5 p6:Pos}{Q:Value->Heap->Prop}(C:Co Γ r ns gs cs)(hr:1<=r)(F:Fv Γ g m (l₀++([Fd fd cl n tn s ts]++l₁)) h)(G:Gd g)(hc:Cs g cl)(hx:Gs gs (U "_law_draw"))(hf:Gs ns (U "feed"))(hm:m (U "feed")=some (.ref fd))(hn:n<=10000)(hW:c=(W:Int))(h0:0<W)
  (x1:∀cR g',Sub g g'->Px Γ m (l₀++([Fd fd cl (n+1) cR s ts]++l₁)) g' e1 (.i a))(x2:∀cR g',Sub g g'->Px Γ m (l₀++([Fd fd cl (n+1) cR s ts]++l₁)) g' e2 (.i d))
  (k:∀kd t cR g' h',kd=a\/kd=d->Sub g g'->Fv Γ g' m (l₀++([Fd fd cl (n+1) cR s ts]++l₁)) h'->Q (.int kd t) h')
  (he:eval (.Call (.Name (U "_law_draw") p) [.Name (U "feed") p1,.Constant (.int c) k1 p2] [] p3) Γ.env=(do callWith p3 (<-eval (.Name (U "_law_draw") p) Γ.env) [] (backTo p3 (starEach [.Name (U "feed") p1,.Constant (.int c) k1 p2] Γ.env)) (backToKw p3 (keywordEach [] Γ.env))):=by rfl):
  Wp Γ.A (eval (.IfExp (.Compare (.Call (.Name (U "_law_draw") p) [.Name (U "feed") p1,.Constant (.int c) k1 p2] [] p3) [.Eq] [.Constant (.int c1) k2 p4] p5) e1 e2 p6) Γ.env) Q E h:=by
 refine kh (c5 (dk C hr F G hc hx hf hm hn hW h0 (λv t cR g1 h1 hv S1 F1=>dT λt2=>vg (bu ?_)) he) (by k_extra "R"))
 split
 ·exact(x1 cR g1 S1).go _ _ g1 h1 (Sub.refl _) F1 λu g2 h2 S2 F2 q=>by
   refine aP q λt3 ak=>?_
   clear q
   obtain rfl:=ak
   exact k _ t3 cR g2 h2 (.inl rfl) (S1.trans S2) F2
 ·exact(x2 cR g1 S1).go _ _ g1 h1 (Sub.refl _) F1 λu g2 h2 S2 F2 q=>by
   refine aP q λt3 ak=>?_
   clear q
   obtain rfl:=ak
   exact k _ t3 cR g2 h2 (.inr rfl) (S1.trans S2) F2
inductive Sr(W:WA)(b:BS)(fd cl:Addr)(n:Nat)(s:Int)(ts:Tok)(lk:List Cell)(pa sa:Addr)(i:Nat)(g:Heap)(m:Str->Option Value)(l:List Cell):Prop
 |mk (b':BS) (n':Nat) (cR:Tok) (vs:List Value) (is:List Nat) (P:Ps m [(U "feed",.ref fd),(U "world",.ref W.wd),(U "points",.ref pa),(U "some",.ref sa)]) (e:l=(sa,Lo vs)::(b'.l W.k++Fd fd cl n' cR s ts::lk)) (X:Wf W b' (b'.l W.k) g) (ex:Ext b.B b'.B) (hl:b'.B.length<=b.B.length+4*i) (hn:n'<=n+1+10*i) (hi:IntsAre vs (bA is)) (hlen:is.length=i) (h4:i<=4) (ht:∀j∈is,∃s,(s=1\/s=2)/\aF b'.B 75 1 s j):Sr W b fd cl n s ts lk pa sa i g m l
theorem AB{kc bc fd cl pa:Addr}{n:Nat}{tn ts tk:Tok}{s kd:Int}{ps qs rs:Array Value}{Q:Flow->Heap->Prop}(C:Co Γ r AY AZ [(U "kind",kc),(U "bank",bc)])(hr:20<=r)(hE:Γ.env=callEnvC (uc w.params) Γ.L 836)(X:Wf W b (b.l W.k) g)(hc:Cs g cl)(hk:kd=1\/kd=2)(hz:b.B.length<=3000)(hn:n<=3000)
  (F:Fv Γ g m (b.l W.k++Lr fd cl n tn s ts kc (some (.int kd tk)) ps qs rs lx) h)(P:Ps m [(U "feed",.ref fd),(U "world",.ref W.wd),(U "points",.ref pa)])
  (k:∀sa vs is (b':BS) n' cR m' g' h',Sub g g'->Ls g' sa vs->IntsAre vs (bA is)->is≠[]->is.length<=4->(∀i∈is,∃s,(s=1\/s=2)/\aF b'.B 75 1 s i)->Ext b.B b'.B->b'.B.length<=b.B.length+16->n'<=n+41->Wf W b' (b'.l W.k) g'->Fv Γ g' m' (b'.l W.k++Lr fd cl n' cR s ts kc (some (.int kd tk)) ps qs rs lx) h'->Ps m' [(U "feed",.ref fd),(U "world",.ref W.wd),(U "points",.ref pa),(U "some",.ref sa)]->Wp Γ.A (execs (oX.drop 3) Γ.env) Q E h'):Wp Γ.A (execs (oX.drop 1) Γ.env) Q E h:=by
 refine ab λQ0 me=>?_
 refine aZ (bV (aC (gJ F (by show 0<=1000;decide) λsa h1 F1=>?_))) (by k_extra "R")
 refine aA C F1 (by k_extra "a") λm2 h2 F2 M2=>me.go ?_
 have P2:Ps m2 [(U "feed",.ref fd),(U "world",.ref W.wd),(U "points",.ref pa),(U "some",.ref sa)]:=.cons (by k_extra "w") (.cons (by k_extra "w") (.cons (by k_extra "w") (.cons (by k_extra "w") (.nil _))))
 refine ab λQ1 gE=>?_
 refine lG (E₁:=λζ ζ=>False) Γ.ρ Γ.L C.rm.hd ?_ (λe h (q:False)=>q.elim) (by intro _;k_extra "R")
 refine bw (iC C X.gd (v:=.type "range") (by k_extra "a") (by k_extra "a") F2 ?_) (by k_extra "R")
 have S3:=Sub.refl g
 refine dU (az (gI (dT λt1=>dk (l₀:=(sa,Lo [])::b.l W.k) (W:=4) C (by lia) F2 (X.gd.up S3) (hc.lf S3) (by k_extra "a") (by k_extra "a") (by k_extra "w") (by k_extra "z") rfl (by decide) (λv t2 EY g4 h4 hv S4 F4=>ui λt3=>?_) (by k_extra "R"))) (by k_extra "R")) (by k_extra "R") (by k_extra "R")
 refine(show(1+(v:Int))=((v+1:Nat):Int) by lia).symm▸?_
 refine aC (om F4 (by k_extra "z") λrr g5 h5 S5 R5 F5=>?_)
 have i4:=S3.trans (S4.trans S5)
 refine⟨v+1,λi v=>∃t,v= .int (i:Int) t,λi g1 m1 l1=>Sub g g1/\Sr W b fd cl n s ts ((kc,Ce (some (.int kd tk)))::(804,Tb ps)::(809,Tb qs)::(821,Tb rs)::lx) pa sa i g1 m1 l1,g5,m2,_,F5,R5,⟨i4,b,n+1,EY,[],[],P2,rfl,X.lf i4,.refl _,by k_extra "z",by k_extra "z",.nil,rfl,by k_extra "z",λj hj=>nomatch hj⟩,?_,?_⟩
 ·rintro i u g6 m6 l6 h6 it p hi ⟨tu,rfl⟩ ⟨S6,⟨b6,n6,KJ,vs,is,P6,rfl,X6,GP,AW,Ni,GL,hlen,Nn,Oj⟩⟩ F6
  have Nn:i<4:=by lia
  refine aY (aA C F6 (by k_extra "a") λm7 h7 F7 M7=>?_)
  have P7:Ps m7 [(U "feed",.ref fd),(U "world",.ref W.wd),(U "points",.ref pa),(U "some",.ref sa)]:=.cons (by k_extra "w") (.cons (by k_extra "w") (.cons (by k_extra "w") (.cons (by k_extra "w") (.nil _))))
  refine ab λQ2 iZ=>?_
  refine aZ (nq (l₀:=(it,p)::(sa,Lo vs)::b6.l W.k) (W:=9) (a:=1+2-kd) (d:=kd) C (by lia) F7 X6.gd (hc.lf S6) (by k_extra "a") (by k_extra "a") (by k_extra "w") (by k_extra "z") rfl (by decide)
   (λcR g' S'=>Px.sub (Px.add (Px.o3 (Px.glob C (X6.gd.up S') (by k_extra "a") (by k_extra "a"))) (Px.o3 (Px.glob C (X6.gd.up S') (by k_extra "a") (by k_extra "a")))) (Px.o3 (Px.pS C (by k_extra "a") (.tail _ (.tail _ (.tail _ (.tail _ (.tail _ (.tail _ (.tail _ (.tail _ (.head _))))))))))))
   (λcR g' S'=>Px.o3 (Px.pS C (by k_extra "a") (.tail _ (.tail _ (.tail _ (.tail _ (.tail _ (.tail _ (.tail _ (.tail _ (.head _)))))))))))
   (λko t8 Dy g8 h8 Ol S8 F8=>?_) (by k_extra "R")) (by k_extra "R")
  have Ol:ko=1\/ko=2:=by lia
  refine aA C F8 (by k_extra "a") λm9 h9 F9 M9=>iZ.go ?_
  have P9:Ps m9 [(U "feed",.ref fd),(U "world",.ref W.wd),(U "points",.ref pa),(U "some",.ref sa),(U "other",.int ko t8)]:=.cons (by k_extra "w") (.cons (by k_extra "w") (.cons (by k_extra "w") (.cons (by k_extra "w") (.cons (by k_extra "w") (.nil _)))))
  have X8:=X6.lf S8
  refine au (kF (dH (ck (v:=.ref sa) C (by k_extra "a") (by k_extra "w") F9 ?_) (by k_extra "R")) (by refine hE.symm▸?_;k_extra "R") (by k_extra "R"))
  have ft:=Sub.refl g8
  refine jl (F9.ls (.tail _ (.head _))) ?_
  refine eY (az (lT C F9 (X8.gd.up ft) (by k_extra "a") (f:=764) (by k_extra "a") (by k_extra "R") (by k_extra "R") (Pa.cons (Px.local C (by k_extra "a") (by k_extra "w")) (Pa.cons (Px.local C (by k_extra "a") (by k_extra "w")) (Pa.cons (Px.local C (by k_extra "a") (by k_extra "w")) (Pa.cons (Px.lu (a:=((1:Nat):Int)) rfl) Pa.nil (by k_extra "R")) (by k_extra "R")) (by k_extra "R")) (by k_extra "R")) (λiU nh iE iA td=>?_) (by k_extra "R") (by k_extra "R")) (by k_extra "R")) (by k_extra "R")
  have Ge:=ft.trans iE
  have i5:=X8.lf Ge
  obtain⟨WE,U',dh⟩:=Fx.gr (l₀:=[(it,p),(sa,Lo vs)]) (l:=Bl W.k b6.ops b6.args b6.sorts b6.ae b6.xs++[Fd fd cl (n6+1) Dy s ts]) (l₁:=((kc,Ce (some (.int kd tk)))::(804,Tb ps)::(809,Tb qs)::(821,Tb rs)::lx)) iA
  refine Wp.call (Fm (dp:=1) (b:=b6) (by decide) U' (i5.sub dh) (((hc.lf S6).lf S8).lf (Ge.trans dh)) (C.rm.less (by lia)) (by k_extra "z") (by k_extra "z") Ol λj t b7 n' cR h' st uT Om WG HU tok=>?_)
  obtain⟨jz,bP,eD⟩:=Fx.ja (l₀:=[(it,p),(sa,Lo vs)]) (l:=Bl W.k b6.ops b6.args b6.sorts b6.ae b6.xs++[Fd fd cl (n6+1) Dy s ts]) (l₁:=((kc,Ce (some (.int kd tk)))::(804,Tb ps)::(809,Tb qs)::(821,Tb rs)::lx)) iA st
  refine aC (yS eD (.tl .hd) (by refine(bG GL).symm▸?_;k_extra "z") λzY mB=>⟨rfl,aB ?_⟩)
  have JJ:=S8.trans (Ge.trans bP)
  exact⟨jz,m9,_,mB,JJ,S6.trans JJ,b7,n',cR,_,is++[j],.cons (by k_extra "w") (.cons (by k_extra "w") (.cons (by k_extra "w") (.cons (by k_extra "w") (.nil _)))),rfl,i5.to bP (b':=b7) (uT.up (Fx.aj eD C.nt)) Om (by show b7.B.length<=4900;k_extra "z"),GP.trans Om,by show b7.B.length<=_;k_extra "z",by k_extra "z",jy GL j t,by simp[hlen],by lia,λj' HC=>by
   rcases List.mem_append.mp HC with q|q
   ·refine aU (Oj j' q) λs hs tk=>?_
    exact⟨s,hs,tk.ext Om⟩
   ·refine(List.mem_singleton.mp q).symm▸?_
    exact⟨ko,Ol,tok⟩⟩
 ·rintro g6 m6 l6 h6 g7 ⟨S6,⟨b6,n6,KJ,vs,is,P6,rfl,X6,GP,AW,Ni,GL,hlen,Nn,Oj⟩⟩ S7 F7
  obtain⟨g8,S8,hl,F8⟩:=F7.freeze
  exact gE.go (k sa vs is b6 n6 KJ m6 g8 h6 (S6.trans (S7.trans S8)) hl GL (by intro q;replace hlen:=q▸hlen;simp at hlen) (by k_extra "z") Oj GP (by k_extra "z") (by k_extra "z") (X6.lf (S7.trans S8)) F8 P6)
end
section
variable{W:WA}{A:Around}{Γ:Cx}{E:Value->Heap->Prop}{m:Str->Option Value}{l l₀ l₁ lx:List Cell}{g g' h:Heap}{r:Nat}{cs:List (Str×Addr)}{ns gs:List Str}{e1 e2:Expr}{pos:Pos}{b b':BS}{env:Env}
theorem oY{test:Expr}{body:List Stmt}{Q:Flow->Heap->Prop}(x:Wp A (PySem.isTrue test env (eval test env)) (λc h1=>c=false/\Q .next h1) E h):Wp A (exec (.If test body [] pos) env) Q E h:=
 ve (Wp.mono x (λc h1 q=>by obtain⟨rfl,q⟩:=q;exact aB q) λζ ζ e=>e)
theorem de(X l₁:List Cell)(a:Cell)(aQ:List Cell):(X++(l₁++a::aQ)).Perm (X++a::(l₁++aQ)):=List.perm_middle.append_left X
inductive GQ(Γ:Cx)(g:Heap)(l:List Cell)(h:Heap):Prop
 |mk (oL:Obj) (G:Heap) (e:h.get? Γ.L=some oL) (x:Gr ((Γ.L,oL)::Γ.ρ) G h l) (s:Sub g G) (ao:Ao Γ.A ((Γ.L,oL)::Γ.ρ)) (nt:eH ((Γ.L,oL)::Γ.ρ)):GQ Γ g l h
theorem GQ.of(C:Co Γ r ns gs cs)(hB:Ab Γ.A Γ.env Γ.L Γ.ρ)(F:Fv Γ g m l h):GQ Γ g l h:=by
 obtain⟨oL,G,e,x,s,ao⟩:=Fx.tT F hB
 exact⟨oL,G,e,x,s,ao,λp hp=>by
  rcases List.mem_cons.mp hp with rfl|hp
  ·exact aS F.ns e
  ·exact C.nt p hp⟩
noncomputable abbrev Pk(fd wd pa sa:Addr):List (Str×Value):=[(U "feed",.ref fd),(U "world",.ref wd),(U "points",.ref pa),(U "some",.ref sa)]
theorem qW{kc bc fd cl pa sa p0 p1:Addr}{n:Nat}{tn ts:Tok}{s:Int}{iF iG:Pt}{uk:Option Value}{ps qs rs:Array Value}{vs:List Value}{is:List Nat}{Q:Flow->Heap->Prop}(C:Co Γ r AY AZ [(U "kind",kc),(U "bank",bc)])(hr:22<=r)(hE:Γ.env=callEnvC (uc w.params) Γ.L 836)(JE:bc=Γ.L+1)(hB:Ab Γ.A Γ.env Γ.L Γ.ρ)(kb:Ck g bc (.ref W.k.self))(X:Wf W b (b.l W.k) g)(Z:qY pa p0 p1 iF iG g)(T:aM g (lq "_law_product_right") ps)
  (hl:Ls g sa vs)(hi:IntsAre vs (bA is))(h0:is≠[])(hle:is.length<=4)(ht:∀i∈is,∃s,(s=1\/s=2)/\aF b.B 75 1 s i)(hz:b.B.length<=4000)
  (F:Fv Γ g m (b.l W.k++Lr fd cl n tn s ts kc uk ps qs rs lx) h)(P:Ps m (Pk fd W.wd pa sa))
  (k:∀(b':BS) aI g' h',Sub g g'->aM g' (lq "_law_product_right") aI->Ext b.B b'.B->b'.B.length<=b.B.length+10->Wf W b' (b'.l W.k) g'->Fv Γ g' m (b'.l W.k++Lr fd cl n tn s ts kc uk aI qs rs lx) h'->Wp Γ.A (execs (oX.drop 4) Γ.env) Q E h'):Wp Γ.A (execs (oX.drop 3) Γ.env) Q E h:=by
 have hlen:=bG hi
 refine ab λQ0 me=>oY ?_
 have fin:∀(b':BS) aI g' h',Sub g g'->aM g' (lq "_law_product_right") aI->Ext b.B b'.B->b'.B.length<=b.B.length+10->Wf W b' (b'.l W.k) g'->Fv Γ g' m (b'.l W.k++Lr fd cl n tn s ts kc uk aI qs rs lx) h'->Q0 .next h':=λb' aI g' h' S T e ln X F=>me.go (k b' aI g' h' S T e ln X F)
 clear k me
 refine aP (⟨_,rfl⟩:∃sl:List Int,sl=is.map λi=>(b.B[i]?.map (·.2.2.1)).getD 0) λsl Iy=>?_
 have U_:sl.length=is.length:=by rw[Iy,List.length_map]
 refine jc (c5 (bw (iC C X.gd (v:=.builtin "len") (by k_extra "a") (by k_extra "a") F ?_) (by k_extra "R")) (by k_extra "R"))
 have S1:=Sub.refl g
 refine eY (az (bw (iC C (X.gd.up S1) (v:=.type "set") (by k_extra "a") (by k_extra "a") F ?_) (by k_extra "R")) (by k_extra "R")) (by k_extra "R")
 have S2:=Sub.refl g
 have dh:=S1.trans S2
 have X2:=X.lf dh
 have kb2:=kb.up dh
 refine dU (az (u5 (sl.map .i) C F (xs:=vs) (Px.qZ (Px.local C (by k_extra "a") (by k_extra "w")) (hl.up dh)) (cl:=[(U "bank",bc)]) (gs':=[]) (by simp) (by refine hE.symm▸JE.symm▸?_;k_extra "R") (by kernel_rfl) (by k_extra "z") (by refine(List.length_map ..).symm▸?_;lia) (λi v qA mc lc g3 hv hA Cc Mc hM S3=>?_) (λD ys g3 h3 S3 F3 E7 ar=>?_) (by intro _;k_extra "R")) (by k_extra "R")) (by k_extra "R") (by k_extra "R")
 ·refine dm (cw hi i v hv) λj tj hj ak=>?_
  obtain rfl:=ak
  refine aU (ht j (List.mem_of_getElem? hj)) λζ ζ tk=>?_
  refine fF tk.row λr er ζ ζ=>?_
  have X3:=(X2.lf S3).more λc hc=>hM c (List.mem_append_left _ hc)
  have WH:=kb2.up S3
  refine⟨.i r.2.2.1,?_,rfl,by k_extra "v"⟩
  rw[List.getElem?_map,Iy,List.getElem?_map,hj,Option.map_some,er]
  rfl
 have GJ:=oU ar
 refine aC (JD C.rm.hd F3 (E7.up F3.keep) GJ (by refine(cp GJ).symm▸?_;k_extra "z") λD2 g4 h4 S4 F4 hS=>?_)
 have uL:ys.length=is.length:=by refine(cp GJ).symm▸?_;exact U_
 replace hS:=uL▸hS
 refine aC (FW hS (Nat.le_trans (firstMet_length_le _ _) (by k_extra "z")) λt5=>dT λt6=>vg (bu ?_))
 have w3:=dh.trans (S3.trans S4)
 cases Oo:(((firstMet (λi=>sl.getD i 0) is.length).length:Int)==1) with
 |false=>exact⟨rfl,fin b ps g4 h4 w3 (T.up w3) (.refl _) (by k_extra "z") (X.lf w3) F4⟩
 |true=>
  have same:=oS (show(firstMet (λi=>sl.getD i 0) is.length).length=1 by have h:=beq_iff_eq.mp Oo;lia)
  have DW:∃s,(s=1\/s=2)/\∀i∈is,aF b.B 75 1 s i:=by
   refine nE (by cases is with|nil=>exact absurd rfl h0|cons a b=>exact⟨a,b,rfl⟩:∃i0 rest,is=i0::rest) λi0 rest ak=>?_
   obtain rfl:=ak
   refine aU (ht i0 (.head _)) λs0 BQ t0=>?_
   refine fF t0.row λr0 e0 q0 ζ=>?_
   refine⟨s0,BQ,λi QP=>?_⟩
   refine aU (ht i QP) λs1 EB t1=>?_
   refine fF t1.row λr1 e1 q1 ζ=>?_
   obtain⟨j,hj,ej⟩:=List.getElem_of_mem QP
   have:=same 0 j (by simp) hj
   replace this:=Iy▸this
   have Va:(i0::rest)[j]? =some i:=by rw[List.getElem?_eq_getElem hj,ej]
   simp only[List.getD_eq_getElem?_getD,List.getElem?_map,Va,List.getElem?_cons_zero,Option.map_some,e0,e1,Option.getD_some] at this
   refine q0▸this.symm▸q1.symm▸?_
   exact t1
  refine aU DW λs1 EB Vb=>?_
  clear DW
  have X4:=X.lf w3
  refine jc (jb (eI (lT C F4 X4.gd (by k_extra "a") (f:=807) (by k_extra "a") (by k_extra "R") (by k_extra "R") (Pa.cons (Px.local C (by k_extra "a") (by k_extra "w")) (Pa.cons (Px.local C (by k_extra "a") (by k_extra "w")) (Pa.cons (Px.local C (by k_extra "a") (by k_extra "w")) Pa.nil (by k_extra "R")) (by k_extra "R")) (by k_extra "R")) (λg5 h5 S5 F5=>?_) (by k_extra "R") (by k_extra "R")) (by k_extra "R")))
  have JK:=F5.perm (de (b.l W.k) [Fd fd cl n tn s ts,(kc,Ce uk)] (804,Tb ps) ((809,Tb qs)::(821,Tb rs)::lx))
  obtain⟨oL,G6,e6,x6,S6,Oq,Ot⟩:=GQ.of C hB JK
  have Sa:=w3.trans (S5.trans S6)
  refine Wp.call (j9 (lr:=Fd fd cl n tn s ts::(kc,Ce uk)::(809,Tb qs)::(821,Tb rs)::lx) x6 Ot Oq ((X.lf Sa).more λc hc=>List.mem_append_left _ hc) (Z.lf Sa) (T.up Sa) (C.rm.less (by lia)) (by k_extra "z") (hl.up Sa) hi h0 hle EB Vb (by decide) (by decide) (by decide) λb' aI g7 h7 st y S7 X7 T7 GR Ou=>?_)
  obtain⟨g8,S8,JL,F8⟩:=Fx.wB JK e6 st y
  exact bu (by
   rw[if_neg (by decide)]
   exact⟨rfl,fin b' aI g8 h7 (w3.trans (S5.trans S8)) (T7.up JL) GR Ou ((X7.lf JL).sub (Sub.refl _)) (F8.perm (de (b'.l W.k) [Fd fd cl n tn s ts,(kc,Ce uk)] (804,Tb aI) ((809,Tb qs)::(821,Tb rs)::lx)).symm)⟩)
end
section
variable{W:WA}{A:Around}{Γ:Cx}{E:Value->Heap->Prop}{m:Str->Option Value}{l l₀ l₁ lx:List Cell}{g g' h:Heap}{r:Nat}{cs:List (Str×Addr)}{ns gs:List Str}{e1 e2:Expr}{pos:Pos}{b b':BS}{env:Env}{kc bc fd cl pa sa p0 p1:Addr}{n:Nat}{tn ts:Tok}{s:Int}{iF iG:Pt}{uk:Option Value}{ps qs rs:Array Value}{vs:List Value}{is:List Nat}{Q:Flow->Heap->Prop}
theorem AD(C:Co Γ r AY AZ [(U "kind",kc),(U "bank",bc)])(hr:22<=r)(hB:Ab Γ.A Γ.env Γ.L Γ.ρ)(X:Wf W b (b.l W.k) g)(Z:qY pa p0 p1 iF iG g)(T:aM g (lq "_law_quotient_right") qs)
  (hl:Ls g sa vs)(hi:IntsAre vs (bA is))(h0:is≠[])(hle:is.length<=4)(ht:∀i∈is,∃s,(s=1\/s=2)/\aF b.B 75 1 s i)(hz:b.B.length<=4000)
  (F:Fv Γ g m (b.l W.k++Lr fd cl n tn s ts kc uk ps qs rs lx) h)(P:Ps m (Pk fd W.wd pa sa))
  (k:∀(b':BS) KL g' h',Sub g g'->aM g' (lq "_law_quotient_right") KL->Ext b.B b'.B->b'.B.length<=b.B.length+15->Wf W b' (b'.l W.k) g'->Fv Γ g' m (b'.l W.k++Lr fd cl n tn s ts kc uk ps KL rs lx) h'->Wp Γ.A (execs (oX.drop 5) Γ.env) Q E h'):Wp Γ.A (execs (oX.drop 4) Γ.env) Q E h:=by
 refine ab λQ0 me=>oY ?_
 refine nE (by cases is with|nil=>exact absurd rfl h0|cons a b=>exact⟨a,b,rfl⟩:∃i0 rest,is=i0::rest) λi0 rest ak=>?_
 obtain rfl:=ak
 refine aU (ht i0 (.head _)) λs0 BQ QQ=>?_
 refine fF QQ.row λr0 e0 ζ ζ=>?_
 refine nE (by cases hi with|cons _ t y=>exact⟨t,_,rfl⟩:∃t0 us,vs= .int (i0:Int) t0::us) λt0 us ak=>?_
 obtain rfl:=ak
 refine kG (jb (eI (lT C F X.gd (by k_extra "a") (f:=812) (by k_extra "a") (by k_extra "R") (by k_extra "R") (Pa.cons (Px.local C (by k_extra "a") (by k_extra "w")) (Pa.cons (Px.local C (by k_extra "a") (by k_extra "w")) (Pa.cons (Px.local C (by k_extra "a") (by k_extra "w")) Pa.nil (by k_extra "R")) (by k_extra "R")) (by k_extra "R")) (λg5 h5 S5 F5=>?_) (by k_extra "R") (by k_extra "R")) (by k_extra "R")))
 have JK:=F5.perm (de (b.l W.k) [Fd fd cl n tn s ts,(kc,Ce uk),(804,Tb ps)] (809,Tb qs) ((821,Tb rs)::lx))
 obtain⟨oL,G6,e6,x6,S6,Oq,Ot⟩:=GQ.of C hB JK
 have Sa:=S5.trans S6
 refine Wp.call (jD (lr:=Fd fd cl n tn s ts::(kc,Ce uk)::(804,Tb ps)::(821,Tb rs)::lx) x6 Ot Oq ((X.lf Sa).more λc hc=>List.mem_append_left _ hc) (Z.lf Sa) (T.up Sa) (C.rm.less (by lia)) (by k_extra "z") (hl.up Sa) hi (by simp at hle;k_extra "z") e0 ht (by decide) (by decide) (by decide) λb1 DX g7 h7 st y S7 X7 T7 GR Ou=>?_)
 obtain⟨g8,S8,JL,F8⟩:=Fx.wB JK e6 st y
 replace F8:Fv Γ g8 m (b1.l W.k++Lr fd cl n tn s ts kc uk ps DX rs lx) h7:=F8.perm (de (b1.l W.k) [Fd fd cl n tn s ts,(kc,Ce uk),(804,Tb ps)] (809,Tb DX) ((821,Tb rs)::lx)).symm
 have X8:=(X7.lf JL).sub (Sub.refl _)
 have AR:=S5.trans S8
 refine bu ?_
 refine bL (by decide) ?_
 refine kG (jb (eI (lT C F8 X8.gd (by k_extra "a") (f:=831) (by k_extra "a") (by k_extra "R") (by k_extra "R") (Pa.cons (Px.local C (by k_extra "a") (by k_extra "w")) (Pa.cons (Px.item (v:=.int (i0:Int) t0) (Px.local C (by k_extra "a") (by k_extra "w")) (hl.up AR) Px.int (by k_extra "R") (by decide) (by decide) (by intro _;k_extra "R")) (Pa.cons (Px.local C (by k_extra "a") (by k_extra "w")) Pa.nil (by k_extra "R")) (by k_extra "R")) (by k_extra "R")) (λg9 h9 S9 F9=>?_) (by k_extra "R") (by k_extra "R")) (by k_extra "R")))
 obtain⟨SH,Mw,ft⟩:=Fx.gr (l₀:=[]) (l:=b1.l W.k) F9
 have Sb:=S9.trans ft
 refine Wp.call (oG Mw (X8.lf Sb) (Z.lf (AR.trans Sb)) (C.rm.less (by lia)) (by k_extra "z") BQ (QQ.ext GR) (by decide) (by decide) (by decide) λb2 nh st bk ex ln=>?_)
 obtain⟨jP,dh,dY⟩:=Fx.ja (l₀:=[]) (l:=b1.l W.k) F9 st
 refine bu ?_
 rw[if_neg (by decide)]
 have Gf:=S9.trans dh
 exact nH ⟨rfl,me.go (k b2 DX jP nh (AR.trans Gf) (T7.up (JL.trans Gf)) (GR.trans ex) (by k_extra "z") (X8.to Gf (bk.up (Fx.aj dY C.nt)) ex (by k_extra "z")) dY)⟩
theorem AE{tt:Tok}(C:Co Γ r AY AZ [(U "kind",kc),(U "bank",bc)])(hr:22<=r)(hB:Ab Γ.A Γ.env Γ.L Γ.ρ)(hc:Cs g cl)(AO:W.k.al.lookup (U "true_number")=some (.int 1 tt))(X:Wf W b (b.l W.k) g)(Z:qY pa p0 p1 iF iG g)(T:aM g (lq "_law_compared_right") rs)
  (hl:Ls g sa vs)(hi:IntsAre vs (bA is))(h0:is≠[])(hle:is.length<=4)(ht:∀i∈is,∃s,(s=1\/s=2)/\aF b.B 75 1 s i)(hz:b.B.length<=4000)(hn:n<=10000)
  (F:Fv Γ g m (b.l W.k++Lr fd cl n tn s ts kc uk ps qs rs lx) h)(P:Ps m (Pk fd W.wd pa sa))
  (k:∀(b':BS) cR GN g' h',Sub g g'->aM g' (lq "_law_compared_right") GN->Ext b.B b'.B->b'.B.length<=b.B.length+10->Wf W b' (b'.l W.k) g'->Fv Γ g' m (b'.l W.k++Lr fd cl (n+1) cR s ts kc uk ps qs GN lx) h'->Wp Γ.A (execs (oX.drop 6) Γ.env) Q E h'):Wp Γ.A (execs (oX.drop 5) Γ.env) Q E h:=by
 refine ab λQ0 me=>oY ?_
 refine jb (eI (bw (ow (v:=.ref 824) C X.gd (by k_extra "a") (by k_extra "a") F ?_) (by k_extra "R")) (by k_extra "R"))
 have S1:=Sub.refl g
 refine b_ (f:=824) (by k_extra "R") (by k_extra "R") (az (ck (v:=.ref W.wd) C (by k_extra "a") (by k_extra "w") F ?_) (by k_extra "R")) (by k_extra "R")
 have S2:=Sub.refl g
 refine az (iH (bV (az (cJ λt1=>az (cJ λt2=>az (cJ λt3=>az (cJ λt4=>aC (c6 F (by show 4<=1000;decide) λsl g3 h3 S3 L3 F3=>?_)) (by k_extra "R")) (by k_extra "R")) (by k_extra "R")) (by k_extra "R")))) (by k_extra "R")
 have bP:=S1.trans (S2.trans S3)
 refine dk (l₀:=b.l W.k) (W:=4) C (by lia) F3 (X.gd.up bP) (hc.lf bP) (by k_extra "a") (by k_extra "a") (by k_extra "w") hn rfl (by decide) (λv t5 EY g4 h4 hv S4 F4=>?_) (by k_extra "R")
 obtain⟨nm,op,sw,QR,sg,Vc⟩:∃nm op sw QR,Sign nm op sw/\[Value.str (U "<=") t1,.str (U "<") t2,.str (U ">=") t3,.str (U ">") t4][((v:Nat):Int).toNat]? =some (.str nm QR):=by
  obtain rfl|rfl|rfl|rfl:v=0\/v=1\/v=2\/v=3:=by lia
  ·exact⟨_,_,_,_,.le,rfl⟩
  ·exact⟨_,_,_,_,.lt,rfl⟩
  ·exact⟨_,_,_,_,.ge,rfl⟩
  ·exact⟨_,_,_,_,.gt,rfl⟩
 refine ki ((L3.up S4).up F4.keep) (by lia) (by lia) Vc ?_ (by k_extra "R")
 refine az (ck (v:=.ref sa) C (by k_extra "a") (by k_extra "w") F4 ?_) (by k_extra "R")
 have S5:=Sub.refl g4
 refine az (ck (v:=.ref pa) C (by k_extra "a") (by k_extra "w") F4 ?_) (by k_extra "R")
 have S6:=Sub.refl g4
 have jU:=bP.trans (S4.trans (S5.trans S6))
 refine aC ⟨(X.gd.up jU).up F4.keep,?_⟩
 have QS:=F4.perm (de (b.l W.k) [Fd fd cl (n+1) EY s ts,(kc,Ce uk),(804,Tb ps),(809,Tb qs)] (821,Tb rs) lx)
 obtain⟨oL,G7,e7,x7,S7,Vd,Ve⟩:=GQ.of C hB QS
 have Sa:=jU.trans S7
 refine Wp.call (jF (lr:=Fd fd cl (n+1) EY s ts::(kc,Ce uk)::(804,Tb ps)::(809,Tb qs)::lx) sg x7 Ve Vd ((X.lf Sa).more λc hc=>List.mem_append_left _ hc) (Z.lf Sa) (T.up Sa) AO (C.rm.less (by lia)) (by k_extra "z") (hl.up Sa) hi h0 hle ht (by decide) λb1 Gg g8 h8 st y S8 X8 T8 QT QU=>?_)
 obtain⟨g9,S9,QV,F9⟩:=Fx.wB QS e7 st y
 exact bu ⟨rfl,me.go (k b1 EY Gg g9 h8 (jU.trans S9) (T8.up QV) QT QU ((X8.lf QV).sub (Sub.refl _)) (F9.perm (de (b1.l W.k) [Fd fd cl (n+1) EY s ts,(kc,Ce uk),(804,Tb ps),(809,Tb qs)] (821,Tb Gg) lx).symm))⟩
end
section
variable{W:WA}{A:Around}{Γ:Cx}{E:Value->Heap->Prop}{m:Str->Option Value}{g h:Heap}{r:Nat}{b:BS}{kc bc fd cl pa p0 p1:Addr}{n:Nat}{tn ts:Tok}{s:Int}{iF iG:Pt}{uk:Option Value}{ps qs rs:Array Value}{Q:Flow->Heap->Prop}
inductive Lq(W:WA)(b:BS)(fd cl:Addr)(n:Nat)(s:Int)(ts:Tok)(kc pa:Addr)(i:Nat)(g:Heap)(m:Str->Option Value)(l:List Cell):Prop
 |mk (b':BS) (n':Nat) (cR:Tok) (uk:Option Value) (ps qs rs:Array Value) (P:Ps m [(U "feed",.ref fd),(U "world",.ref W.wd),(U "points",.ref pa)]) (e:l=b'.l W.k++Lr fd cl n' cR s ts kc uk ps qs rs []) (X:Wf W b' (b'.l W.k) g) (T1:aM g (lq "_law_product_right") ps) (T2:aM g (lq "_law_quotient_right") qs) (T3:aM g (lq "_law_compared_right") rs) (hl:b'.B.length<=b.B.length+51*i) (hn:n'<=n+43*i):Lq W b fd cl n s ts kc pa i g m l
theorem AF{tt:Tok}(C:Co Γ r AY AZ [(U "kind",kc),(U "bank",bc)])(hr:22<=r)(hE:Γ.env=callEnvC (uc w.params) Γ.L 836)(JE:bc=Γ.L+1)(hB:Ab Γ.A Γ.env Γ.L Γ.ρ)(kb:Ck g bc (.ref W.k.self))(hc:Cs g cl)(AO:W.k.al.lookup (U "true_number")=some (.int 1 tt))(X:Wf W b (b.l W.k) g)(Z:qY pa p0 p1 iF iG g)(T1:aM g (lq "_law_product_right") ps)(T2:aM g (lq "_law_quotient_right") qs)(T3:aM g (lq "_law_compared_right") rs)(hz:b.B.length<=1000)(hn:n<=1000)
  (F:Fv Γ g m (b.l W.k++Lr fd cl n tn s ts kc uk ps qs rs []) h)(P:Ps m [(U "feed",.ref fd),(U "world",.ref W.wd),(U "points",.ref pa)])
  (k:∀l' m' g' h',Sub g g'->Fv Γ g' m' l' h'->(∃(b':BS) (n':Nat) (cR:Tok) (Vf:Option Value) (aI KL GN:Array Value),l'=b'.l W.k++Lr fd cl n' cR s ts kc Vf aI KL GN [])->Wp Γ.A (execs ((cD (st 38)).drop 7) Γ.env) Q E h'):Wp Γ.A (execs ((cD (st 38)).drop 6) Γ.env) Q E h:=by
 refine ab λQ0 me=>?_
 refine gQ (n:=3) (P:=λi v=>∃t,v= .int (i:Int) t) Γ.ρ Γ.L C.rm.hd (λi g1 m1 l1=>Sub g g1/\Lq W b fd cl n s ts kc pa i g1 m1 l1) ?_ ?_ ?_ (by intro _;k_extra "R")
 ·refine bw (iC C X.gd (v:=.type "range") (by k_extra "a") (by k_extra "a") F ?_) (by k_extra "R")
  have S1:=Sub.refl g
  refine dU (az (dT λt=>aC (om (n:=3) F (by decide) λrr g2 h2 S2 R2 F2=>?_)) (by k_extra "R")) (by k_extra "R") (by k_extra "R")
  have dh:=S1.trans S2
  exact⟨g2,m,_,F2,R2,dh,b,n,tn,uk,ps,qs,rs,P,rfl,X.lf dh,T1.up dh,T2.up dh,T3.up dh,by k_extra "z",by k_extra "z"⟩
 ·rintro i v g1 m1 l1 h1 it p hi ⟨tl,rfl⟩ ⟨S1,⟨b1,n1,Ds,KN,KO,DX,Gg,P1,rfl,X1,U1,U2,U3,eW,uM⟩⟩ F1
  have GJ:i<3:=hi
  refine aY (aA C F1 (by k_extra "a") λm2 h2 F2 M2=>?_)
  have P2:Ps m2 [(U "feed",.ref fd),(U "world",.ref W.wd),(U "points",.ref pa)]:=.cons (by k_extra "w") (.cons (by k_extra "w") (.cons (by k_extra "w") (.nil _)))
  have I0:Fv Γ g1 m2 (b1.l W.k++Lr fd cl n1 Ds s ts kc KN KO DX Gg [(it,p)]) h2:=F2.perm (List.perm_append_singleton (it,p) (b1.l W.k++Lr fd cl n1 Ds s ts kc KN KO DX Gg [])).symm
  show Wp Γ.A (execs oX Γ.env) _ _ h2
  refine ab λQ1 gE=>?_
  refine aZ (nq (l₀:=b1.l W.k) (W:=3) (a:=1) (d:=2) C (by lia) I0 X1.gd (hc.lf S1) (by k_extra "a") (by k_extra "a") (by k_extra "w") (by k_extra "z") rfl (by decide) (λcR g' S'=>Px.o3 (Px.glob C (X1.gd.up S') (by k_extra "a") (by k_extra "a"))) (λcR g' S'=>Px.o3 (Px.glob C (X1.gd.up S') (by k_extra "a") (by k_extra "a"))) (λkd tk Sj g3 h3 Vg S3 F3=>?_) (by k_extra "R")) (by k_extra "R")
  refine dC (v:=.int kd tk) C F3 (by k_extra "a") (.tl (.tl (.tl (.tl (.tl (.tl .hd)))))) λh4 F4=>gE.go ?_
  have bP:=S1.trans S3
  refine AB (lx:=[(it,p)]) (tk:=tk) (kd:=kd) C (by lia) hE (X1.lf S3) (hc.lf bP) Vg (by k_extra "z") (by k_extra "z") F4 P2 λsa vs is b5 n5 Pj m5 g5 h5 S5 IL Ov J0 Gi Ow WI WJ WK X5 F5 P5=>?_
  have i4:=bP.trans S5
  have Gj:=S3.trans S5
  refine qW C hr hE JE hB (kb.up i4) X5 (Z.lf i4) (U1.up Gj) IL Ov J0 Gi Ow (by k_extra "z") F5 P5 λb6 Ox g6 h6 S6 T6 GP WL X6 F6=>?_
  have jU:=i4.trans S6
  have QW:=Gj.trans S6
  refine AD C hr hB X6 (Z.lf jU) (U2.up QW) (IL.up S6) Ov J0 Gi (λi hi=>let⟨s,hs,q⟩:=Ow i hi;⟨s,hs,q.ext GP⟩) (by k_extra "z") F6 P5 λb7 Oy g7 h7 S7 T7 GR Ou X7 F7=>?_
  have mf:=jU.trans S7
  have QX:=QW.trans S7
  refine AE C hr hB (hc.lf mf) AO X7 (Z.lf mf) (U3.up QX) (IL.up (S6.trans S7)) Ov J0 Gi (λi hi=>let⟨s,hs,q⟩:=Ow i hi;⟨s,hs,(q.ext GP).ext GR⟩) (by k_extra "z") (by k_extra "z") F7 P5 λb8 Dy Oz g8 h8 S8 T8 QT QU X8 F8=>?_
  refine aB ?_
  have KA:Fv Γ g8 m5 ((it,p)::(b8.l W.k++Lr fd cl (n5+1) Dy s ts kc (some (.int kd tk)) Ox Oy Oz [])) h8:=F8.perm (List.perm_append_singleton (it,p) (b8.l W.k++Lr fd cl (n5+1) Dy s ts kc (some (.int kd tk)) Ox Oy Oz []))
  exact⟨g8,m5,_,KA,QX.trans S8,mf.trans S8,b8,n5+1,Dy,_,Ox,Oy,Oz,.cons (P5.at .hd) (.cons (P5.at (.tl .hd)) (.cons (P5.at (.tl (.tl .hd))) (.nil _))),rfl,X8,T6.up (S7.trans S8),T7.up S8,T8,by k_extra "z",by k_extra "z"⟩
 ·rintro g1 m1 l1 h1 g2 ⟨S1,⟨b1,n1,Ds,KN,KO,DX,Gg,P1,rfl,X1,U1,U2,U3,eW,uM⟩⟩ S2 F2
  exact me.go (k _ m1 g2 h1 (S1.trans S2) F2 ⟨b1,n1,Ds,KN,KO,DX,Gg,rfl⟩)
end
theorem Gk(g:Heap)(q:Str):aM g q #[]:=⟨trivial,λpos v e=>nomatch e⟩
noncomputable abbrev hO(ps qs rs:Array Value):List Cell:=[(804,Tb ps),(809,Tb qs),(821,Tb rs)]
section
variable{A:Around}{g h:Heap}{R:Result->Heap->Prop}{ρ:List (Addr×Obj)}
theorem JM{sa:Addr}{vs:List Value}{ns:List Int}(x:Gr ρ g h (hO #[] #[] #[]))(nt:eH ρ)(gw:Ao A ρ)(G:Gd g)(hA:Rm A 23)(hl:Ls g sa vs)(hi:IntsAre vs ns)(hz:vs.length<=100)
  (K:∀ps qs rs l' h',Step ρ (hO #[] #[] #[]) h (l'++hO ps qs rs) h'->R (.ok (.ret (.bool true))) h'):Cd A (.call (.ref 836) ⟨[.ref sa],[]⟩) R h:=by
 refine dG [(U "script",.ref sa)] [U "cells",U "feed",U "names",U "words",U "world",U "points",U "lap",U "point",U "some",U "turn",U "other"] (λn=>[(U "kind",n+1),(U "bank",n)]) (λn=>[(n+1,none),(n,none)]) (binds:=[(U "script",.ref sa)]) (ns:=AY) (gs:=AZ) (r:=22) x nt G hA (Hw G) (Hx G) rfl rfl rfl rfl (λn=>by k_extra "R") (λn=>by k_extra "R") (by kernel_rfl) (λn=>rfl) λΓ m g1 h1 eX hE bS C P S F=>?_
 have hB:Ab Γ.A Γ.env Γ.L Γ.ρ:=by refine eX.symm▸?_;exact Ab.H7 gw hE bS C.ev
 refine wR C hE F P (G.up S) (hl.up S) hi hz λcl fd s tn ts m2 g2 h2 S2 hc F2 P2=>?_
 have G2:=(G.up S).up S2
 refine Ax C (by decide) hE F2 P2 G2 λb u v z nd ops args sorts ae xs m3 g3 h3 S3 kb I sn big bk F3 P3=>?_
 have G3:=G2.up S3
 refine wU C (by decide) hE rfl rfl G3 kb I big bk F3 P3 λuk l0 l1 l2 ops args sorts ae xk m4 g4 h4 S4 n0 n1 n2 dn fn bk F4 P4=>?_
 have w3:=S3.trans S4
 refine uf (lb:=Bl (b.k (gX u v z)) ops args sorts ae xk) C (by decide) hE (G3.up S4) (kb.up S4) (hc.lf w3) F4 P4 λwd pa n Pj m5 g5 h5 hn S5 dw ⟨p0,p1,iF,iG,Z⟩ F5 P5=>?_
 refine CX (Mb.qU (b:=b) (u:=u) (v:=v) (z:=z)) λa1 a2 a3 a4 a5=>?_
 have Gj:=S4.trans S5
 have X:Wf ⟨b.k (gX u v z),wd,nd,b.sn,b.fn,l0,l1,l2⟩ ⟨bC,ops,args,sorts,ae,xk⟩ (Bl (b.k (gX u v z)) ops args sorts ae xk) g5:=⟨⟨G3.up Gj,I.up Gj,dw,dn.up S5,n0.up S5,n1.up S5,n2.up S5⟩,Mb.Jz big,a1,fn.up S5,a5,Sn.lf sn Gj,bk.lf S5,λζ hc=>hc,by show 9<=4900;decide,.refl _⟩
 refine AF (W:=⟨b.k (gX u v z),wd,nd,b.sn,b.fn,l0,l1,l2⟩) (b:=⟨bC,ops,args,sorts,ae,xk⟩) (ps:=#[]) (qs:=#[]) (rs:=#[]) C (by decide) hE rfl hB (kb.up Gj) (hc.lf (w3.trans S5)) a4 X Z (Gk _ _) (Gk _ _) (Gk _ _) (by show 9<=1000;decide) (by k_extra "z") F5 P5 λl' m6 g6 h6 S6 F6 q=>?_
 obtain⟨b6,n6,KJ,Vh,ps,qs,rs,rfl⟩:=q
 refine au (bR F6 Px.bool λv g7 h7 S7 F7 q=>?_)
 obtain rfl:v= .bool true:=q
 exact K ps qs rs (b6.l (b.k (gX u v z))++[Fd fd cl n6 KJ s ts,(Γ.L+1+1,Ce Vh)]) h7 (x.d5 eX F7 (S.trans (S2.trans (w3.trans (S5.trans (S6.trans S7))))))
end
noncomputable section
theorem lookup_mem{β:Type}{K:List (Addr×β)}(nd:(K.map (·.1)).Nodup)(p:Addr×β)(hp:p∈K):K.lookup p.1=some p.2:=by
 induction K with
 |nil=>exact nomatch hp
 |cons q K ih=>
  have nd:=List.nodup_cons.mp (show(q.1::K.map (·.1)).Nodup from nd)
  show(match p.1==q.1 with|true=>some q.2|false=>K.lookup p.1)=_
  rcases List.mem_cons.mp hp with e|hp
  ·refine e.symm▸?_
   rw[beq_self_eq_true]
  ·refine(beq_eq_false_iff_ne.mpr (show p.1≠q.1 from λe=>nd.1 (List.mem_map.mpr ⟨p,hp,e⟩))).symm▸?_
   exact ih nd.2 hp
theorem u6:(A0.Nodup/\(KV.all λa=>a !=804&&a !=809&&a !=821)=true):=⟨by decide +kernel,by decide +kernel⟩
theorem Gl(P:Params):KV=(K P).map (·.1):=by kernel_rfl
theorem Gm:RW.row.toRowW.pre= .and (.not (.lt (.lit (.int (63:Nat))) (.len (.arg 0)))) (.lit (.bool true)):=rfl
theorem CJ(xs:List WData):RW.row.toRowW.claim.post [.list xs] (.bool true) [.list xs]=true:=by kernel_rfl
theorem AG{mg mb:Str->Option Value}{g h h':Heap}{ps qs rs:Array Value}{l':List Cell}(G:o8 mg mb g)(kf:∀p∈K2 w.params,h.get? p.1=some p.2)(st:Step [] (hO #[] #[] #[]) h (l'++hO ps qs rs) h'):OldK h h':=by
 have e1:h.get? 804=some (tabObj #[]):=kf _ (List.mem_append_right _ (.head _))
 have e2:h.get? 809=some (tabObj #[]):=kf _ (List.mem_append_right _ (.tail _ (.head _)))
 have e3:h.get? 821=some (tabObj #[]):=kf _ (List.mem_append_right _ (.tail _ (.tail _ (.head _))))
 have c1:h.get? 806=some nA:=kf (806,_) (List.mem_append_left _ (List.mem_of_getElem? (i:=128) rfl))
 have c2:h.get? 811=some nB:=kf (811,_) (List.mem_append_left _ (List.mem_of_getElem? (i:=130) rfl))
 have c3:h.get? 823=some nC:=kf (823,_) (List.mem_append_left _ (List.mem_of_getElem? (i:=134) rfl))
 have at':∀c ts,(c,Tb ts)∈hO ps qs rs->h'.get? c=some (tabObj ts):=λc ts hm=>by
  obtain⟨o,e,p⟩:=st.own.at' _ (List.mem_append_right _ hm)
  rw[<-show o=_ from p];exact e
 have d1:=at' 804 ps (.head _)
 have d2:=at' 809 qs (.tail _ (.head _))
 have d3:=at' 821 rs (.tail _ (.tail _ (.head _)))
 have tk:∀c ts o,h.get? c=some (tabObj #[])->isCodeTable h c->h'.get? c=some (tabObj ts)->h.get? c=some o->asItWas h h' c o:=λc ts o e t d eo=>by
  rw[e] at eo
  cases eo
  exact .inr (.inl ⟨t,rfl,#[],ts,rfl,by rw[d];simp⟩)
 have key:∀b,b∈adr (hO #[] #[] #[])->b=804\/b=809\/b=821:=λb hb=>by simpa[adr] using hb
 refine⟨λb o e=>?_,λb o e=>?_⟩
 ·by_cases hb:b∈adr (hO #[] #[] #[])
  ·rcases key b hb with rfl|rfl|rfl
   ·exact tk _ _ _ e1 ⟨806,_,_,c1,rfl,rfl,rfl⟩ d1 e
   ·exact tk _ _ _ e2 ⟨811,_,_,c2,rfl,rfl,rfl⟩ d2 e
   ·exact tk _ _ _ e3 ⟨823,_,_,c3,rfl,rfl,rfl⟩ d3 e
  ·exact .inl (st.keep b o e hb λq=>nomatch q)
 ·by_cases hb:b∈adr (hO #[] #[] #[])
  ·rcases key b hb with rfl|rfl|rfl
   ·exact⟨_,d1⟩
   ·exact⟨_,d2⟩
   ·exact⟨_,d3⟩
  ·exact⟨o,st.keep b o e hb λq=>nomatch q⟩
theorem AH{P:Params}{h:Heap}{v:Value}{i:Int}(x:Well P h v (.int i)):∃t,v= .int i t:=by
 cases x;exact⟨_,rfl⟩
theorem wV{P:Params}{h:Heap}{v:Value}{xs:List WData}(x:Well P h v (.list xs)):∃a vs,v= .ref a/\h.get? a=some {cls:=.type "list",data:=.seq vs.toArray}/\WellAll P h vs xs:=by
 cases x with|list e y=>exact⟨_,_,rfl,e,y⟩
theorem wW{P:Params}{h:Heap}{xs:List WData}{vs:List Value}(hi:WShape.hasItems [] xs .int=true)(x:WellAll P h vs xs):∃ns,IntsAre vs ns/\vs.length=xs.length:=by
 induction xs generalizing vs with
 |nil=>cases x;exact⟨[],.nil,rfl⟩
 |cons d xs ih=>
  refine fv (wellAll_cons_inv x) λv us q a b=>?_
  have hi:=Bool.and_eq_true_iff.mp hi
  refine aP (hasW_int hi.1) λi e=>?_
  refine aP (AH (e▸a)) λt e'=>?_
  refine aU (ih hi.2 b) λns c l=>?_
  refine(q.trans (e'▸rfl:_= .int i t::us)).symm▸?_
  exact⟨i::ns,.cons i t c,congrArg (·+1) l⟩
theorem CK{h:Heap}{args:List WData}{vals:List Value}(h1:WShape.hasAll [] args [.list .int]=true)(x:WellAll w.params h vals args):
  ∃(sa:Addr) (vs:List Value) (xs:List WData),args=[.list xs]/\vals=[.ref sa]/\h.get? sa=some {cls:=.type "list",data:=.seq vs.toArray}/\(∃ns,IntsAre vs ns/\vs.length=xs.length):=by
 obtain⟨d,r,rfl,hx,hr⟩:=hasAllW_cons h1
 obtain rfl:=hasAllW_nil hr
 obtain⟨xs,rfl,hi⟩:=hasW_list hx
 obtain⟨v,us,rfl,a,b⟩:=wellAll_cons_inv x
 cases b
 obtain⟨sa,vs,rfl,e,y⟩:=wV a
 exact⟨sa,vs,xs,rfl,rfl,e,wW hi y⟩
theorem QY:Walk:=by
 refine A4 rfl rfl ?_
 intro Vi iP mg mb CL Y a o pm cd doc dV kV ho hd i8 WM Vj JN args vals as OA Vk WN JO WO
 have Y2:(K2 w.params).In iP.heap:=Y
 have Vl:((K2 w.params).map (·.1)).Nodup:=CW w.params▸u6.1
 have kf:∀p∈K2 w.params,iP.heap.get? p.1=some p.2:=λp hp=>Y2 _ _ (lookup_mem Vl p hp)
 have off:∀p∈K w.params,p.1∉adr (hO #[] #[] #[]):=λp hp hb=>by
  have:=List.all_eq_true.mp (Gl w.params▸u6.2) p.1 (List.mem_map.mpr ⟨p,hp,rfl⟩)
  have hb:p.1=804\/p.1=809\/p.1=821:=by simpa[adr] using hb
  rcases hb with e|e|e <;> (rw[e] at this;revert this;decide)
 have own:Own (hO #[] #[] #[]) iP.heap:=by
  refine⟨λp hp=>?_,by decide,λp hp=>?_⟩
  ·rcases List.mem_cons.mp hp with rfl|hp
   ·exact⟨_,kf _ (List.mem_append_right _ (.head _)),rfl⟩
   rcases List.mem_cons.mp hp with rfl|hp
   ·exact⟨_,kf _ (List.mem_append_right _ (.tail _ (.head _))),rfl⟩
   rcases List.mem_cons.mp hp with rfl|hp
   ·exact⟨_,kf _ (List.mem_append_right _ (.tail _ (.tail _ (.head _)))),rfl⟩
   ·cases hp
  ·rcases List.mem_cons.mp hp with rfl|hp
   ·exact Tb.nt
   rcases List.mem_cons.mp hp with rfl|hp
   ·exact Tb.nt
   rcases List.mem_cons.mp hp with rfl|hp
   ·exact Tb.nt
   ·cases hp
 have x:=Gr.of own
 have up:∀b o,b∉adr (hO #[] #[] #[])->iP.heap.get? b=some o->(hideAll iP.heap (adr (hO #[] #[] #[]))).get? b=some o:=λb o hb e=>hideAll_get _ e hb
 have G0:o8 mg mb (hideAll iP.heap (adr (hO #[] #[] #[]))):=⟨λp hp=>up _ _ (off p hp) (kf p (List.mem_append_left _ hp)),CL.T.g.at λo e=>up _ _ (by decide) e,CL.T.b.at λo e=>up _ _ (by decide) e,let⟨mc,p,q⟩:=CL.T.nolimit;⟨mc,p.at λo e=>up _ _ (by decide) e,q⟩,CL.T.builtins⟩
 obtain rfl:a=836:=by
  have:=G0.gv (x:=U "law") (v:=vR 836) (List.mem_of_getElem? (i:=29) rfl)
  rw[show mg (U "law")=some (.ref a) from Vj] at this
  injection this with this
  injection this
 refine i_ (pre_splitW OA) λh1 h2=>?_
 refine He (CK h1 JO) λsa vs xs ak iO ea x1=>?_
 refine aU x1 λns fY wZ=>?_
 subst ak iO
 rw[Gm] at h2
 have hz:xs.length<=63:=by
  simp[WTm.holds,WTm.value] at h2
  by_cases hq:xs.length<=63
  ·exact hq
  ·have hl:less? (WData.int 63) (WData.int xs.length)=some (decide ((63:Int)<xs.length)):=rfl
   rw[hl,decide_eq_true (by lia)] at h2
   simp at h2
 have nl:sa∉adr (hO #[] #[] #[]):=λhb=>by
  have hb:sa=804\/sa=809\/sa=821:=by simpa[adr] using hb
  have key:∀c,(c,Tb #[])∈hO #[] #[] #[]->sa≠c:=λc hm e=>by
   obtain⟨o',e',p'⟩:=own.at' _ hm
   rw[show o'=_ from p',show iP.heap.get? c=_ from e▸ea] at e'
   cases e'
  rcases hb with e|e|e
  ·exact key 804 (.head _) e
  ·exact key 809 (.tail _ (.head _)) e
  ·exact key 821 (.tail _ (.tail _ (.head _))) e
 have W0:Wp callerA (PySem.call (.ref 836) [.ref sa]) (λv h'=>v= .bool true/\OldK iP.heap h') (λζ ζ=>False) iP.heap:=Wp.call (JM x eH.nil ⟨List.nodup_nil,[],rfl,.nil⟩ ⟨mg,mb,G0⟩ ⟨rfl,by decide,by decide⟩ ⟨_,up _ _ nl ea,rfl,rfl,0,rfl⟩ fY (by lia) λps qs rs l' h' st=>⟨rfl,AG G0 kf st⟩)
 obtain⟨hp,gg,dd,kk,os⟩:=iP
 obtain rfl:gg=#[]:=JN
 exact W0.go #[] dd kk os _ _ (λv h' k' q=>⟨.inl ⟨v,.bool true,[],by rw[q.1],λζ=>rfl,by rw[q.1];exact .bool true,CJ _,λζ=>⟨List.nodup_nil,λζ h=>nomatch h⟩⟩,q.2,rfl,.of_eq rfl⟩) (λζ ζ ζ q=>q.elim)
end
end Mine
theorem PySem.Challenge.cw_nz0154_01_holds : PySem.Challenge.rw_nz0154_01.Holds :=
 Mine.OF Mine.QY
