/- Printing, part 1. -/
import Derived.Test.YtfhimfcbphepeaaGreatDoorSrt
import Derived.Test.YtfhimfcbphepeaaGreatDoorAmH
import Derived.Test.YtfhimfcbphepeaaGreatDoorProg
import Derived.KernelRfl
set_option linter.unusedSectionVars false
set_option linter.unusedVariables false
set_option linter.unusedSimpArgs false
open Go Am
namespace Go.Proofs.YtfhimfcbphepeaaGreatDoor.Ty
def frzT (f:FuncId):Nat:=bif Nat.beq f 40 then 2 else bif Nat.beq f 36 then 2 else bif Nat.beq f 41 then 2 else bif Nat.beq f 107 then 2 else bif Nat.beq f 140 then 2 else bif Nat.beq f 34 then 3 else bif Nat.beq f 88 then 3 else 1
noncomputable def ry:List AV:=[.int .u64 1,.int .u64 10,.int .u64 100,.int .u64 1000,.int .u64 10000,.int .u64 100000,.int .u64 1000000,.int .u64 10000000,.int .u64 100000000,.int .u64 1000000000,.int .u64 10000000000,.int .u64 100000000000,.int .u64 1000000000000,.int .u64 10000000000000,.int .u64 100000000000000,.int .u64 1000000000000000,.int .u64 10000000000000000,.int .u64 100000000000000000,.int .u64 1000000000000000000,.int .u64 10000000000000000000]
noncomputable def gl0:qb:=fun g=>bif Nat.beq g 1 then some ry else none
noncomputable abbrev EK (K:FuncId->List AV->Option AV):a_:=oW Tryz.prog 1200 1200 frzT K gl0 236
end Go.Proofs.YtfhimfcbphepeaaGreatDoor.Ty
open Go Am
namespace Go.Proofs.YtfhimfcbphepeaaGreatDoor
noncomputable def cz:lT:= {a:=[(3,some (.int .i64),some 1,some false,some false),(47,none,some 3,some true,some false),(9,some .string,some 1,some false,some false),(45,some (.slice 47),some 1,some false,some false),(44,some (.int .i64),some 1,some false,some false),(38,some (.slice 137),some 1,some false,some false),(5,some (.int .u8),some 1,some false,some false),(40,none,some 2,some true,some false),(283,none,some 1,some false,some false),(207,some (.slice 5),some 1,some false,some false),(67,some (.slice 9),some 1,some false,some false),(137,none,some 2,some true,some false),(323,some (.int .u32),some 1,some false,some false),(284,some (.array 16 283),some 16,some true,some false),(83,some (.slice 3),some 1,some false,some false),(4,some .bool,some 1,some false,some false),(41,some (.slice 115),some 1,some false,some false),(31,some (.int .i64),some 1,some false,some false),(43,none,some 3,some true,some false),(337,some (.array 24 5),some 24,some true,some false),(233,some (.map 3 4),some 1,some false,some false),(325,some (.int .u64),some 1,some false,some false),(122,none,some 3,some true,some false),(111,none,some 3,some true,some false),(287,none,some 2,some true,some false),(2,some (.int .i64),some 1,some false,some false),(115,none,some 6,some true,some false),(206,some (.pointer 209),some 1,some false,some false),(21,some (.int .i32),some 1,some false,some false),(49,none,some 1,some false,some false),(156,some (.map 9 4),some 1,some false,some false),(309,some (.map 9 44),some 1,some false,some false),(247,none,some 1,some false,some false),(289,none,some 4,some true,some false),(279,some (.map 3 4),some 1,some false,some false),(291,some (.map 44 289),some 1,some false,some false),(151,none,some 1,some true,some false),(209,none,some 2,some true,some false),(106,none,some 1,some false,some false),(20,none,some 1,some false,some true),(108,none,some 1,some false,some false),(186,none,some 1,some false,some false),(298,some .unsafePointer,some 1,some false,some false),(345,some (.array 20 325),some 20,some true,some false)],c:=[(2560,some (0,1,false)),(2561,some (1,1,false)),(2752,some (0,2,true)),(2753,some (2,1,false)),(3008,some (0,1,false)),(3009,some (1,1,false)),(3010,some (2,1,false)),(7105,some (1,2,true)),(7360,some (0,1,false)),(7361,some (1,1,false)),(7362,some (2,3,true)),(7363,some (5,1,false)),(7808,some (0,2,true)),(7809,some (2,1,false)),(8768,some (0,1,false)),(8769,some (1,1,false)),(9664,some (0,1,false)),(13376,some (0,1,false)),(13377,some (1,1,false)),(18368,some (0,2,true)),(18496,some (0,1,false)),(18497,some (1,1,false)),(18498,some (2,1,false)),(18499,some (3,1,false))],b:=[(3,some (.int .i64 0)),(4,some (.bool false)),(5,some (.int .u8 0)),(9,some (.J [])),(31,some (.int .i64 0)),(47,some (.agg [.int .i64 0,.int .i64 0,.Ca])),(49,some .Cz),(67,some .Ca),(83,some .Ca),(137,some (.agg [.J [],.int .i64 0])),(151,some (.agg [.int .i64 0])),(156,some .Zn),(209,some (.agg [.Ys,.Ca])),(233,some .Zn),(247,some .Cz),(284,some (.agg [.Cz,.Cz,.Cz,.Cz,.Cz,.Cz,.Cz,.Cz,.Cz,.Cz,.Cz,.Cz,.Cz,.Cz,.Cz,.Cz])),(289,some (.agg [.J [],.int .i64 0,.int .i64 0,.int .i64 0])),(337,some (.agg [.int .u8 0,.int .u8 0,.int .u8 0,.int .u8 0,.int .u8 0,.int .u8 0,.int .u8 0,.int .u8 0,.int .u8 0,.int .u8 0,.int .u8 0,.int .u8 0,.int .u8 0,.int .u8 0,.int .u8 0,.int .u8 0,.int .u8 0,.int .u8 0,.int .u8 0,.int .u8 0,.int .u8 0,.int .u8 0,.int .u8 0,.int .u8 0]))],d:=[(47,some ([.int .i64 0,.int .i64 0,.Ca],pa [(0,1),(1,1),(2,1)])),(111,some ([.Ca,.Ca,.Ca],pa [(0,1),(1,2)])),(122,some ([.Ca,.Ca,.Cz],pa [(0,2),(2,1)])),(137,some ([.J [],.int .i64 0],pa [(0,1),(1,1)])),(151,some ([.int .i64 0],pa [(0,1)])),(284,some ([.Cz,.Cz,.Cz,.Cz,.Cz,.Cz,.Cz,.Cz,.Cz,.Cz,.Cz,.Cz,.Cz,.Cz,.Cz,.Cz],fun i=>some (i*1,1))),(287,some ([.Ca,.Ca],pa [(0,2)])),(289,some ([.J [],.int .i64 0,.int .i64 0,.int .i64 0],pa [(0,1),(1,1),(2,1),(3,1)]))],fn:=[(4,some Tryz.f4),(14,some Tryz.f14),(15,some Tryz.f15),(16,some Tryz.f16),(17,some Tryz.f17),(29,some Tryz.f29),(31,some Tryz.f31),(43,some Tryz.f43),(47,some Tryz.f47),(49,some Tryz.f49),(51,some Tryz.f51),(52,some Tryz.f52),(53,some Tryz.f53),(54,some Tryz.f54),(55,some Tryz.f55),(56,some Tryz.f56),(57,some Tryz.f57),(58,some Tryz.f58),(59,some Tryz.f59),(60,some Tryz.f60),(61,some Tryz.f61),(62,some Tryz.f62),(63,some Tryz.f63),(78,some Tryz.f78),(90,some Tryz.f90),(91,some Tryz.f91),(101,some Tryz.f101),(103,some Tryz.f103),(104,some Tryz.f104),(106,some Tryz.f106),(108,some Tryz.f108),(109,some Tryz.f109),(110,some Tryz.f110),(111,some Tryz.f111),(112,some Tryz.f112),(113,some Tryz.f113),(114,some Tryz.f114),(115,some Tryz.f115),(116,some Tryz.f116),(117,some Tryz.f117),(118,some Tryz.f118),(119,some Tryz.f119),(120,some Tryz.f120),(121,some Tryz.f121),(122,some Tryz.f122),(123,some Tryz.f123),(124,some Tryz.f124),(125,some Tryz.f125),(126,some Tryz.f126),(127,some Tryz.f127),(128,some Tryz.f128),(137,some Tryz.f137),(139,some Tryz.f139),(140,some Tryz.f140),(141,some Tryz.f141),(162,some Tryz.f162),(163,some Tryz.f163),(164,some Tryz.f164),(165,some Tryz.f165),(166,some Tryz.f166),(173,some Tryz.f173),(174,some Tryz.f174),(175,some Tryz.f175),(176,some Tryz.f176),(177,some Tryz.f177),(178,some Tryz.f178),(179,some Tryz.f179),(180,some Tryz.f180),(181,some Tryz.f181),(182,some Tryz.f182),(183,some Tryz.f183),(184,some Tryz.f184),(185,some Tryz.f185),(186,some Tryz.f186),(187,some Tryz.f187),(188,some Tryz.f188),(189,some Tryz.f189),(190,some Tryz.f190),(191,some Tryz.f191),(192,some Tryz.f192),(193,some Tryz.f193),(194,some Tryz.f194),(195,some Tryz.f195),(196,some Tryz.f196),(197,some Tryz.f197),(198,some Tryz.f198),(199,some Tryz.f199),(200,some Tryz.f200),(201,some Tryz.f201),(202,some Tryz.f202),(208,some Tryz.f208),(210,some Tryz.f210),(212,some Tryz.f212),(218,some Tryz.f218),(219,some Tryz.f219),(230,some Tryz.f230),(233,some Tryz.f233),(234,some Tryz.f234),(235,some Tryz.f235),(237,some Tryz.f237),(238,some Tryz.f238),(239,some Tryz.f239),(240,some Tryz.f240),(241,some Tryz.f241),(242,some Tryz.f242),(243,some Tryz.f243),(244,some Tryz.f244),(245,some Tryz.f245),(246,some Tryz.f246),(247,some Tryz.f247),(248,some Tryz.f248),(249,some Tryz.f249),(250,some Tryz.f250),(255,some Tryz.f255),(258,some Tryz.f258),(265,some Tryz.f265),(266,some Tryz.f266),(267,some Tryz.f267),(268,some Tryz.f268),(271,some Tryz.f271),(272,some Tryz.f272),(273,some Tryz.f273),(274,some Tryz.f274),(275,some Tryz.f275),(276,some Tryz.f276),(277,some Tryz.f277),(278,some Tryz.f278),(279,some Tryz.f279),(280,some Tryz.f280),(281,some Tryz.f281),(299,some Tryz.f299),(300,some Tryz.f300),(301,some Tryz.f301),(313,some Tryz.f313),(314,some Tryz.f314),(318,some Tryz.f318),(319,some Tryz.f319)],e:=351,ex:=[0,1,216,257,283,286,302,327,328,329,330,331,332,333,334,335,336,337,338,339,340,341,342,343,344,345,346,347,348,349]}
class Tb (E:a_):Prop where
 a:bW E cz
instance {K:FuncId->List AV->Option AV}:Tb (Ty.EK K):=⟨⟨by kernel_rfl,by kernel_rfl,by kernel_rfl,by kernel_rfl,by kernel_rfl,by kernel_rfl⟩⟩
section
variable {E : a_} [Tb E]
theorem u_2:CS E 2=some (.int .i64):=(Tb.a.t rfl).1 _ rfl
theorem aP:CS E 3=some (.int .i64):=(Tb.a.t rfl).1 _ rfl
theorem Eo:Am.an E 3=some 1:=(Tb.a.t rfl).2.1
theorem GM:Am.j_ E 3=some false:=(Tb.a.t rfl).2.2.1
theorem z_3:Am.i_ E 3=some (.int .i64 0):=Tb.a.z rfl
theorem sz_4:Am.an E 4=some 1:=(Tb.a.t rfl).2.1
theorem ag_4:Am.j_ E 4=some false:=(Tb.a.t rfl).2.2.1
theorem z_4:Am.i_ E 4=some (.bool false):=Tb.a.z rfl
theorem ua:CS E 5=some (.int .u8):=(Tb.a.t rfl).1 _ rfl
theorem DF:Am.an E 5=some 1:=(Tb.a.t rfl).2.1
theorem z_5:Am.i_ E 5=some (.int .u8 0):=Tb.a.z rfl
theorem Zr:CS E 9=some .string:=(Tb.a.t rfl).1 _ rfl
theorem Ia:Am.an E 9=some 1:=(Tb.a.t rfl).2.1
theorem s9:Am.j_ E 9=some false:=(Tb.a.t rfl).2.2.1
theorem tn:Am.i_ E 9=some (.J []):=Tb.a.z rfl
theorem if_20:aW E 20=some true:=(Tb.a.t rfl).2.2.2
theorem Vx:Am.an E 31=some 1:=(Tb.a.t rfl).2.1
theorem wa:Am.j_ E 31=some false:=(Tb.a.t rfl).2.2.1
theorem E9:Am.an E 38=some 1:=(Tb.a.t rfl).2.1
theorem EC:Am.j_ E 38=some false:=(Tb.a.t rfl).2.2.1
theorem Oe:Am.an E 40=some 2:=(Tb.a.t rfl).2.1
theorem Qs:Am.j_ E 40=some true:=(Tb.a.t rfl).2.2.1
theorem sz_41:Am.an E 41=some 1:=(Tb.a.t rfl).2.1
theorem ag_41:Am.j_ E 41=some false:=(Tb.a.t rfl).2.2.1
theorem wb:Am.an E 44=some 1:=(Tb.a.t rfl).2.1
theorem wc:Am.j_ E 44=some false:=(Tb.a.t rfl).2.2.1
theorem u_45:CS E 45=some (.slice 47):=(Tb.a.t rfl).1 _ rfl
theorem En:Am.an E 45=some 1:=(Tb.a.t rfl).2.1
theorem Ep:Am.j_ E 45=some false:=(Tb.a.t rfl).2.2.1
theorem Ic:Am.an E 47=some 3:=(Tb.a.t rfl).2.1
theorem NN:Am.j_ E 47=some true:=(Tb.a.t rfl).2.2.1
theorem z_47:Am.i_ E 47=some (.agg [.int .i64 0,.int .i64 0,.Ca]):=Tb.a.z rfl
theorem MM:CS E 67=some (.slice 9):=(Tb.a.t rfl).1 _ rfl
theorem sz_67:Am.an E 67=some 1:=(Tb.a.t rfl).2.1
theorem Vf:CS E 83=some (.slice 3):=(Tb.a.t rfl).1 _ rfl
theorem sz_83:Am.an E 83=some 1:=(Tb.a.t rfl).2.1
theorem LI:Am.an E 111=some 3:=(Tb.a.t rfl).2.1
theorem MA:Am.j_ E 111=some true:=(Tb.a.t rfl).2.2.1
theorem IE:Am.an E 122=some 3:=(Tb.a.t rfl).2.1
theorem IT:Am.j_ E 122=some true:=(Tb.a.t rfl).2.2.1
theorem u_156:CS E 156=some (.map 9 4):=(Tb.a.t rfl).1 _ rfl
theorem Vn:CS E 206=some (.pointer 209):=(Tb.a.t rfl).1 _ rfl
theorem D8:CS E 207=some (.slice 5):=(Tb.a.t rfl).1 _ rfl
theorem sz_207:Am.an E 207=some 1:=(Tb.a.t rfl).2.1
theorem ag_207:Am.j_ E 207=some false:=(Tb.a.t rfl).2.2.1
theorem Of:Am.an E 209=some 2:=(Tb.a.t rfl).2.1
theorem Od:CS E 233=some (.map 3 4):=(Tb.a.t rfl).1 _ rfl
theorem sz_233:Am.an E 233=some 1:=(Tb.a.t rfl).2.1
theorem ag_233:Am.j_ E 233=some false:=(Tb.a.t rfl).2.2.1
theorem QH:CS E 279=some (.map 3 4):=(Tb.a.t rfl).1 _ rfl
theorem sz_284:Am.an E 284=some 16:=(Tb.a.t rfl).2.1
theorem ag_284:Am.j_ E 284=some true:=(Tb.a.t rfl).2.2.1
theorem sz_289:Am.an E 289=some 4:=(Tb.a.t rfl).2.1
theorem z_289:Am.i_ E 289=some (.agg [.J [],.int .i64 0,.int .i64 0,.int .i64 0]):=Tb.a.z rfl
theorem QG:CS E 291=some (.map 44 289):=(Tb.a.t rfl).1 _ rfl
theorem u_298:CS E 298=some .unsafePointer:=(Tb.a.t rfl).1 _ rfl
theorem Oc:CS E 309=some (.map 9 44):=(Tb.a.t rfl).1 _ rfl
theorem AM:CS E 323=some (.int .u32):=(Tb.a.t rfl).1 _ rfl
theorem GU:CS E 325=some (.int .u64):=(Tb.a.t rfl).1 _ rfl
theorem sz_325:Am.an E 325=some 1:=(Tb.a.t rfl).2.1
theorem Fg:CS E 337=some (.array 24 5):=(Tb.a.t rfl).1 _ rfl
theorem u_345:CS E 345=some (.array 20 325):=(Tb.a.t rfl).1 _ rfl
end
namespace Ty
section
variable {K : FuncId -> List AV -> Option AV}
theorem xd:p_ (EK K) 3=some 8:=by kernel_rfl
theorem sE:eC (EK K) 3=some (.one (.int .i64)):=by kernel_rfl
theorem by_5:p_ (EK K) 5=some 1:=by kernel_rfl
theorem Po:r5 (EK K) 5=true:=by kernel_rfl
theorem sH:p_ (EK K) 9=some 16:=by kernel_rfl
theorem xe:eC (EK K) 9=some (.one .string):=by kernel_rfl
theorem U2:eC (EK K) 44=some (.one (.int .i64)):=by kernel_rfl
theorem Sj:kE (EK K) 137=true:=by kernel_rfl
theorem SP:eC (EK K) 137=some (.flat [.string,.int .i64]):=by kernel_rfl
end
end Ty
section
variable {E : a_} [Tb E] {KP : AV -> Sl -> St -> Prop} {KN : PN} {all ops r rest : List Oper} {o : Oper} {oa : Array Oper} {fr : Fr} {l l' : Sl} {i i' n n' bd : Nat} {b : Code} {lg oD : List Nat} {hl ck : Hl} {Q : Sl -> St -> Prop} {s st : St} {R : Ex -> Fr -> Sl -> St -> Prop} {js : List Nat} {nl : YI}
theorem Lv (k:Nat) (h:s8 cz all fr.nt k ops l=some (r,l')) (hk:CC E KP all r fr l' s Q):CC E KP all ops fr l s Q:=J5 Tb.a h hk
theorem Ls (k:Nat) (h:qO cz all fr.nt bd k ops l n lg hl=some (r,l',n',oD,ck)) (hk:CC E KP all r fr l' (Y9 n' bd oD ck) Q):CC E KP all ops fr l (Y9 n bd lg hl) Q:=If Tb.a h hk
theorem Nv (k:Nat) (h:xc cz all fr.nt k ops i l=some (r,i',l')) (hk:CF E KN all r i' fr l' st js nl Q):CF E KN all ops i fr l st js nl Q:=MS Tb.a h hk
theorem Nw (h:xc cz all fr.nt ops.length ops i l=some ([],i',l')) (hk:Q l' st):CF E KN all ops i fr l st js nl Q:=MS Tb.a h (CF.done hk)
theorem Lw (h:s8 cz all fr.nt ops.length ops l=some ([],l')) (hk:Q l' s):CC E KP all ops fr l s Q:=segW Tb.a h hk
theorem Lx (h:qO cz all fr.nt bd ops.length ops l n lg hl=some ([],l',n',oD,ck)) (hk:Q l' (Y9 n' bd oD ck)):CC E KP all ops fr l (Y9 n bd lg hl) Q:=segX Tb.a h hk
theorem Ew (h:s8 cz oa.toList fr.nt oa.toList.length oa.toList l=some ([],l')) (hk:CA E b fr l' s R):CA E (.seq (.region i oa false) b) fr l s R:=segA Tb.a h hk
theorem Eh (h:qO cz oa.toList fr.nt bd oa.toList.length oa.toList l n lg hl=some ([],l',n',oD,ck)) (hk:CA E b fr l' (Y9 n' bd oD ck) R):CA E (.seq (.region i oa false) b) fr l (Y9 n bd lg hl) R:=segB Tb.a h hk
variable {t yt e f d k off sz x1 : Nat} {x y a c : Operand} {v w p q : AV} {dd : Option TypeDesc} {nn : Option Nat} {aa ii : Option Bool} {rr : Option Nat × Option Bool × Option Bool} {cs bq args : List AV} {part : Bool} {cl : Call} {ts : List TypeId} {ik : IntKind} {od : Option Nat}
theorem kq (h:qv cz o.op l=some v):Zm E o l v:=vZ Tb.a h
theorem kh (h:hv cz o.op l n bd lg hl=some (v,n',oD,ck)):ZU E o fr l (Y9 n bd lg hl) v (Y9 n' bd oD ck):=hv_ok Tb.a h
theorem ka {a b:Nat} (h:(o.op,jn cz.a t,Cg x l,Cg y l)=(.binOp .add t x y yt,some (some (.int .i64),rr),some (.int .i64 (a:Nat)),some (.int .i64 (b:Nat)))) (hb:a+b<9223372036854775808):Zm E o l (.int .i64 ((a+b:Nat):Int)):=
 have h1:=t2 h;have h2:=t2 h1.2;have h3:=t2 h2.2
 TF h1.1 ((Tb.a.t h2.1).1 _ rfl) h3.1 h3.2 hb
theorem kv {k:Nat} (h:(o.op,jn cz.a t,jn cz.a e,Cg x l,Cg y l)=(.indexAddr t x y,some (some (.slice e),rr),some (dd,some (sz+1),aa,ii),some w,some (.int ik (k:Nat)))) (hv:Yr (sz+1) k w=some p):Zm E o l p:=
 have h1:=t2 h;have h2:=t2 h1.2;have h3:=t2 h2.2;have h4:=t2 h3.2
 Ly h1.1 ((Tb.a.t h2.1).1 _ rfl) (Tb.a.t h3.1).2.1 h4.1 h4.2 hv
theorem kM {b len k:Nat} {cap:Option Nat} (h:(o.op,jn cz.a t,jn cz.a e,Cg x l,Cg y l)=(.indexAddr t x y,some (some (.slice e),rr),some (dd,some (sz+1),aa,ii),some (.slice b off len (sz+1) cap),some (.int ik (k:Nat)))) (hk:k<len):Zm E o l (.Z b (off+k*(sz+1))):=
 have h1:=t2 h;have h2:=t2 h1.2;have h3:=t2 h2.2;have h4:=t2 h3.2
 Lz h1.1 ((Tb.a.t h2.1).1 _ rfl) (Tb.a.t h3.1).2.1 h4.1 h4.2 hk
theorem kX {m n:Nat} (h:(o.op,jn cz.a t,jn cz.a e,Cg x l,Cg y l)=(.indexAddr t x y,some (some (.array n e),rr),some (dd,some (sz+1),aa,ii),some p,some (.int ik (m:Nat)))) (hm:m<n) (hq:aA (m*(sz+1)) p=some q):Zm E o l q:=
 have h1:=t2 h;have h2:=t2 h1.2;have h3:=t2 h2.2;have h4:=t2 h3.2
 L4 h1.1 ((Tb.a.t h2.1).1 _ rfl) (Tb.a.t h3.1).2.1 h4.1 h4.2 hm hq
theorem kn (h:(o.op,cl.callee,cl.argTypes.toList,cl.args.toList,jn cz.a t,Cg x l)=(.call cl,.builtin .len,t::ts,[x],some (some (.slice e),rr),some w)) (hv:Am.jb w=some v):Zm E o l v:=
 have h1:=t2 h;have h2:=t2 h1.2;have h3:=t2 h2.2;have h4:=t2 h3.2;have h5:=t2 h4.2
 TD h1.1 h2.1 h3.1 h4.1 ((Tb.a.t h5.1).1 _ rfl) h5.2 hv
theorem ks {a b:Int} (h:(o.op,jn cz.a t,Cg x l,Cg y l)=(.binOp .sub t x y yt,some (some (.int .i64),rr),some (.int .i64 a),some (.int .i64 b))) (hb: -9223372036854775808<=a-b/\a-b<9223372036854775808):Zm E o l (.int .i64 (a-b)):=
 have h1:=t2 h;have h2:=t2 h1.2;have h3:=t2 h2.2
 Zm.sub h1.1 ((Tb.a.t h2.1).1 _ rfl) h3.1 h3.2 hb
theorem kl {b:Nat} (h:(o.op,Cg a l,jn cz.a t)=(.load t a,some (.Z b off),some (dd,some k,some false,ii))) (hg:s.heap.u b=some (.J cs e part)) (hv:cs[off]?=some v):ZU E o fr l s v s:=
 have h1:=t2 h;have h2:=t2 h1.2;have h3:=Tb.a.t h2.2
 Bs h1.1 h2.1 (A4 h3.2.2.1 h3.2.1 hg hv)
theorem kL {b:Nat} (h:(o.op,Cg a l,jn cz.a t)=(.load t a,some (.Z b off),some (dd,some k,some true,ii))) (hg:s.heap.u b=some (.J cs e part)) (hn:Nat.ble (off+k) cs.length=true):ZU E o fr l s (.agg ((cs.drop off).take k)) s:=
 have h1:=t2 h;have h2:=t2 h1.2;have h3:=Tb.a.t h2.2
 Bs h1.1 h2.1 (AS h3.2.2.1 h3.2.1 hg (Qc hn))
theorem kw {b:Nat} (h:(o.op,Cg a l,Cg x l,jn cz.a t)=(.store t a x,some (.Z b off),some v,some (dd,some k,aa,ii))) (hg:s.heap.u b=some (.J cs e part)) (h2:(v.u.length,v.A,over v.u off cs)=(k,false,some bq)):ZU E o fr l s (.O []) (s.B b (some (.J bq e part))):=
 have h1:=t2 h;have h3:=t2 h1.2;have h4:=t2 h3.2;have h5:=t2 h2;have h6:=t2 h5.2
 Ek h1.1 (Tb.a.t h4.2).2.1 h3.1 h4.1 (DU hg h5.1 h6.1 h6.2)
theorem kz {z:AV} (h:(o.op,jn cz.b t)=(.alloc t,some (some z))):ZU E o fr l s (.Z s.a 0) (s.A (.J z.u t false)):=ZU.alloc (t2 h).1 (Tb.a.z (t2 h).2)
theorem kc (h:(o.op,cl.callee,qd cz f,Za cl.args.toList l)=(.call cl,.value (.func f),true,some args)) (hm:E.d f args=some v):ZU E o fr l s v s:=
 have h1:=t2 h;have h2:=t2 h1.2;have h3:=t2 h2.2
 Dq h1.1 h2.1 (Tb.a.b h3.1) h3.2 (Cj.ay hm)
theorem kC (h:(o.op,cl.callee,qd cz f,Za cl.args.toList l)=(.call cl,.value (.func f),true,some args)) (hm:E.d f args=some v):OpA E o fr l v:=
 have h1:=t2 h;have h2:=t2 h1.2;have h3:=t2 h2.2
 Ve h1.1 h2.1 (Tb.a.b h3.1) h3.2 hm
theorem kV {t:Nat} {first captured:List AV} (h:(o.op,cl.callee,Am.e_ t l,qd cz f,Za cl.args.toList l)=(.call cl,.value (.tmp t),some (.G' (.func f) first captured),true,some args)) (hm:E.d f (first++args++captured)=some v):OpA E o fr l v:=
 have h1:=t2 h;have h2:=t2 h1.2;have h3:=t2 h2.2;have h4:=t2 h3.2
 RQ h1.1 h2.1 h3.1 (Tb.a.b h4.1) h4.2 hm
theorem kf (h:(o.op,cl.callee,qd cz f,Za cl.args.toList l,o.guard,o.dst,Nat.blt d fr.nt)=(.call cl,.value (.func f),true,some args,none,some d,true)) (hr:CD E f args s fun v s'=>CC E KP all rest fr ((d,v)::l) s' Q):CC E KP all (o::rest) fr l s Q:=
 have h1:=t2 h;have h2:=t2 h1.2;have h3:=t2 h2.2;have h4:=t2 h3.2;have h5:=t2 h4.2;have h6:=t2 h5.2
 RJ h1.1 h2.1 (Tb.a.b h3.1) h4.1 h5.1 h6.1 h6.2 hr
theorem Nm {b:Nat} (h:(o.op,Cg a (Yn (b_ o.op.operands.toList) l),jn cz.a t)=(.load t a,some (.Z b off),some (dd,some k,some false,ii))) (hg:st.heap.u b=some (.J cs e part)) (hv:cs[off]?=some v) (hG:Yv all l o) (hc:(Zp (Yt all i) b nl,o.dst,YW fr.nt od)=(true,od,true))
 (hk:CF E KN all rest (i+1) fr (ZC od v l) st (i::js) nl Q):CF E KN all (o::rest) i fr l st js nl Q:=
 have h1:=t2 h;have h2:=t2 h1.2;have h3:=Tb.a.t h2.2;have h4:=t2 hc
 AI h1.1 h2.1 (A4 h3.2.2.1 h3.2.1 hg hv) h4.1 hG (t2 h4.2).1 (t2 h4.2).2 hk
theorem NM {b:Nat} (h:(o.op,Cg a (Yn (b_ o.op.operands.toList) l),jn cz.a t)=(.load t a,some (.Z b off),some (dd,some k,some true,ii))) (hg:st.heap.u b=some (.J cs e part)) (hn:Nat.ble (off+k) cs.length=true) (hG:Yv all l o) (hc:(Zp (Yt all i) b nl,o.dst,YW fr.nt od)=(true,od,true))
 (hk:CF E KN all rest (i+1) fr (ZC od (.agg ((cs.drop off).take k)) l) st (i::js) nl Q):CF E KN all (o::rest) i fr l st js nl Q:=
 have h1:=t2 h;have h2:=t2 h1.2;have h3:=Tb.a.t h2.2;have h4:=t2 hc
 AI h1.1 h2.1 (AS h3.2.2.1 h3.2.1 hg (Qc hn)) h4.1 hG (t2 h4.2).1 (t2 h4.2).2 hk
theorem As {fn:Func} {cb:Code} {l0:Sl} {rs:List ResultVar} (h:(E.e f,E.d f args,jn cz.fn f,fn.body,fn.results.toList,frame fn.ntmps args none,bV 0 args [])=(1,none,some (some fn),some cb,rs,fr,l0))
 (hk:CA E cb fr l0 (Y9 0 0 [] []) fun ex fr l st=>(ex= .Z\/ex= .J)/\fr.defers=[]/\st.c=[]/\st.b=0/\∃vs w ks,CO E st l rs=some vs/\CW st 0 40 (eT vs) []=some (w,ks)/\Cw 0 40 w=true/\w=v):Cj E f args S0 v:=
 have h1:=t2 h;have h3:=t2 h1.2;have h4:=t2 h3.2;have h5:=t2 h4.2;have h6:=t2 h5.2;have h7:=t2 h6.2
 Bt h1.1 h3.1 (Tb.a.g h4.1) h5.1 h6.1 h7.1 h7.2 hk
theorem Ar {fn:Func} {cb:Code} {l0:Sl} {rs:List ResultVar} {RV RP:AV->St->Prop} (h:(E.d f args,jn cz.fn f,fn.body,fn.results.toList,frame fn.ntmps args none,bV 0 args [])=(none,some (some fn),some cb,rs,fr,l0))
 (hk:CA E cb fr l0 s.u (lS E f rs s RV RP)):YG E f args s RV RP:=
 have h3:=t2 h;have h4:=t2 h3.2;have h5:=t2 h4.2;have h6:=t2 h5.2;have h7:=t2 h6.2
 YG.gen h3.1 (Tb.a.g h4.1) h5.1 h6.1 h7.1 h7.2 hk
end
section
variable {E : a_} {fr : Fr} {l : Sl} {s : St} {Q : Ex -> Fr -> Sl -> St -> Prop} {a b : Code} {i : Nat} {x : Operand} {ops : Array Oper}
theorem Ln {KP:AV->Sl->St->Prop} {o:Oper} {all rest:List Oper} {v:AV} {s':St} {Q:Sl->St->Prop} (ho:ZU E o fr l s v s') (hg:(o.guard,o.dst)=(none,none)) (h:CC E KP all rest fr l s' Q):CC E KP all (o::rest) fr l s Q:=HU ho (t2 hg).1 (t2 hg).2 h
theorem Na {KN:PN} {all rest:List Oper} {o:Oper} {i:Nat} {js:List Nat} {nl:YI} {Q:Sl->St->Prop} {od:Option Nat} {v:AV} (ho:OpA E o fr (Yn (b_ o.op.operands.toList) l) v) (hG:Yv all l o) (hc:(o.dst,YW fr.nt od)=(od,true)) (hk:CF E KN all rest (i+1) fr (ZC od v l) s (i::js) nl Q):CF E KN all (o::rest) i fr l s js nl Q:=CF.aG ho hG (t2 hc).1 (t2 hc).2 hk
theorem Sq (h:CA E a fr l s (wX E b Q)):CA E (.seq a b) fr l s Q:=BT h
theorem Sk (h:Q .J fr l s):CA E .skip fr l s Q:=Gi h
theorem Sb (h:CA E b fr l s (pW i Q)):CA E (.block i b) fr l s Q:=CA.block h
theorem Sx (h:Q (.G' i) fr l s):CA E (.exit i) fr l s Q:=QB h
theorem Sr (h:CC E (fun v l s=>Q (.O v) fr l s) ops.toList ops.toList fr l s (Q .J fr)):CA E (.region i ops false) fr l s Q:=HY h
theorem Tt (hx:Cg x l=some (.bool true)) (h:CA E a fr l s Q):CA E (.cond x a b) fr l s Q:=MF hx rfl h
theorem Tf (hx:Cg x l=some (.bool false)) (h:CA E b fr l s Q):CA E (.cond x a b) fr l s Q:=MG hx rfl h
theorem Se (h:Q .Z fr l s):CA E .ret fr l s Q:=AA h
theorem Cb {t:Nat} {c:Bool} (hx:Am.e_ t l=some (.bool c)) (h1:c=true->CA E a fr ((t,.bool true)::l) s Q) (h0:c=false->CA E b fr ((t,.bool false)::l) s Q):CA E (.cond (.tmp t) a b) fr l s Q:=GL hx h1 h0
theorem Cd {t:Nat} {p:Prop} {dp:Decidable p} (hx:Am.e_ t l=some (.bool (decide p))) (h1:p->CA E a fr ((t,.bool true)::l) s Q) (h0:¬p->CA E b fr ((t,.bool false)::l) s Q):CA E (.cond (.tmp t) a b) fr l s Q:=GL hx (fun g=>h1 (dT g)) fun g=>h0 (dF g)
theorem Ce {t:Nat} {p:Prop} {dp:Decidable p} (hx:Am.e_ t l=some (.bool (!decide p))) (h1:¬p->CA E a fr ((t,.bool true)::l) s Q) (h0:p->CA E b fr ((t,.bool false)::l) s Q):CA E (.cond (.tmp t) a b) fr l s Q:=GL hx (fun g=>h1 (nT g)) fun g=>h0 (nF g)
theorem Cn {t:Nat} {c:Bool} (hx:Am.e_ t l=some (.bool (!c))) (h1:c=false->CA E a fr ((t,.bool true)::l) s Q) (h0:c=true->CA E b fr ((t,.bool false)::l) s Q):CA E (.cond (.tmp t) a b) fr l s Q:=GL hx (fun g=>h1 (sv g)) fun g=>h0 (sw g)
theorem Bb {KP:AV->Sl->St->Prop} {all rest:List Oper} {o oj:Oper} {K:Sl->St->Prop} {j e:Nat} {w b:Bool} (hg:(o.guard,pa all j,oj.dst,Am.e_ e l)=(some (j,w),some oj,some e,some (.bool b)))
 (h1:b=true->CC E KP all (o::rest) fr ((e,.bool true)::l) s K) (h0:b=false->CC E KP all (o::rest) fr ((e,.bool false)::l) s K):CC E KP all (o::rest) fr l s K:=F4 (t2 (t2 (t2 hg).2).2).2 h1 h0
variable {KP : AV -> Sl -> St -> Prop} {KN : PN} {all rest : List Oper} {o oj : Oper} {K : Sl -> St -> Prop} {j e : Nat} {w : Bool} {js : List Nat} {nl : YI}
theorem Bd {p:Prop} {dp:Decidable p} (hg:(o.guard,pa all j,oj.dst,Am.e_ e l)=(some (j,w),some oj,some e,some (.bool (decide p))))
 (h1:p->CC E KP all (o::rest) fr ((e,.bool true)::l) s K) (h0:¬p->CC E KP all (o::rest) fr ((e,.bool false)::l) s K):CC E KP all (o::rest) fr l s K:=Bb hg (fun g=>h1 (dT g)) fun g=>h0 (dF g)
theorem Be {p:Prop} {dp:Decidable p} (hg:(o.guard,pa all j,oj.dst,Am.e_ e l)=(some (j,w),some oj,some e,some (.bool (!decide p))))
 (h1:¬p->CC E KP all (o::rest) fr ((e,.bool true)::l) s K) (h0:p->CC E KP all (o::rest) fr ((e,.bool false)::l) s K):CC E KP all (o::rest) fr l s K:=Bb hg (fun g=>h1 (nT g)) fun g=>h0 (nF g)
theorem Bn {c:Bool} (hg:(o.guard,pa all j,oj.dst,Am.e_ e l)=(some (j,w),some oj,some e,some (.bool (!c))))
 (h1:c=false->CC E KP all (o::rest) fr ((e,.bool true)::l) s K) (h0:c=true->CC E KP all (o::rest) fr ((e,.bool false)::l) s K):CC E KP all (o::rest) fr l s K:=Bb hg (fun g=>h1 (sv g)) fun g=>h0 (sw g)
theorem Db {b:Bool} (hg:(o.guard,pa all j,oj.dst,Am.e_ e l)=(some (j,w),some oj,some e,some (.bool b)))
 (h1:b=true->CF E KN all (o::rest) i fr ((e,.bool true)::l) s js nl K) (h0:b=false->CF E KN all (o::rest) i fr ((e,.bool false)::l) s js nl K):CF E KN all (o::rest) i fr l s js nl K:=have h2:=t2 hg;have h3:=t2 h2.2;have h4:=t2 h3.2;US h2.1 h3.1 h4.1 h4.2 h1 h0
theorem Dd {p:Prop} {dp:Decidable p} (hg:(o.guard,pa all j,oj.dst,Am.e_ e l)=(some (j,w),some oj,some e,some (.bool (decide p))))
 (h1:p->CF E KN all (o::rest) i fr ((e,.bool true)::l) s js nl K) (h0:¬p->CF E KN all (o::rest) i fr ((e,.bool false)::l) s js nl K):CF E KN all (o::rest) i fr l s js nl K:=Db hg (fun g=>h1 (dT g)) fun g=>h0 (dF g)
theorem gG (h:(o.guard,pa all j,oj.dst,Am.e_ e l)=(some (j,w),some oj,some e,some (.bool w))):Yv all l o:=have h2:=t2 h;have h3:=t2 h2.2;have h4:=t2 h3.2;AB h2.1 h3.1 h4.1 h4.2 rfl
theorem Nz {od:Option Nat} {v:AV} (ho:Zm E o (Yn (b_ o.op.operands.toList) l) v) (hg:(o.guard,pa all j,oj.dst,Am.e_ e l)=(some (j,w),some oj,some e,some (.bool w))) (hd:(o.dst,YW fr.nt od)=(od,true)) (h:CF E KN all rest (i+1) fr (ZC od v l) s js nl K):CF E KN all (o::rest) i fr l s js nl K:=I7 ho (gG hg) (t2 hd).1 (t2 hd).2 h
end
end Go.Proofs.YtfhimfcbphepeaaGreatDoor
open Go Am
namespace Go.Proofs.YtfhimfcbphepeaaGreatDoor.Ty
theorem Aw:jL Tryz.prog 1200 1200 236:=
 ⟨⟨dT (by kernel_rfl),dT (by kernel_rfl),by kernel_rfl,by kernel_rfl⟩,⟨Tryz.f236,_,by kernel_rfl,rfl,by kernel_rfl⟩,sortRun⟩
noncomputable abbrev gn:qb:=gl0
theorem Ag:∀g cs,gn g=some cs->cs.all (Cm 40)=true:=fun g cs h=>by
 unfold gn gl0 at h;cases hb:Nat.beq g 1 with
 |false=>rw[hb]at h;cases h
 |true=>rw[hb]at h;cases h;rfl
theorem Bm:jI Tryz.prog 1200 1200:=⟨dT (by kernel_rfl),dT (by kernel_rfl),by kernel_rfl,by kernel_rfl⟩
def K0:FuncId->List AV->Option AV:=fun f args=>match f with
 |8=>match args with
  | []=>some (.bool true)
  |_=>none
 |_=>none
theorem TG (h:CM Tryz.prog 8 [] (.bool true)):Co Tryz.prog gn K0:=by
 intro f args v hv;unfold K0 at hv;split at hv
 .split at hv
  .cases hv;exact h.g
  .cases hv
 .cases hv
def ak (a b n:Int):Bool:=decide (a<=n)&&decide (n<=b)
def we (n:Int):Bool:=decide (n=32)||decide (n=10)
def notLine (n:Int):Bool:= !decide (n=10)
def isMinus (n:Int):Bool:=decide (n=126)
def fE:FuncId->Option (Int->Bool)
 |90=>some (ak 97 122)
 |173=>some (ak 65 90)
 |212=>some (ak 48 57)
 |162=>some (ak 97 122)
 |165=>some (ak 65 90)
 |230=>some (ak 48 57)
 |208=>some we
 |210=>some notLine
 |255=>some isMinus
 |_=>none
theorem byte_to {f:FuncId} {p:Int->Bool} (hf:fE f=some p) (n:Int):Cj (EK K0) f [.int .u8 n] S0 (.bool (p n)):=by
 unfold fE at hf;split at hf<;>cases hf
 .refine As U ?_;focus
   refine Ew U<|Es<|Lv 3 U<|Bb U (fun g1=>?_) (fun g1=>?_);have h1:=dT g1;refine Lw U<|AA (Er U<|Ab ?_);rotate_left;have h1:=dF g1;refine Lw U<|AA (Er U<|Ab ?_);rotate_left
  all_goals (unfold ak;rw[g1];rfl)
 .refine As U ?_;focus
   refine Ew U<|Es<|Lv 3 U<|Bb U (fun g1=>?_) (fun g1=>?_);have h1:=dT g1;refine Lw U<|AA (Er U<|Ab ?_);rotate_left;have h1:=dF g1;refine Lw U<|AA (Er U<|Ab ?_);rotate_left
  all_goals (unfold ak;rw[g1];rfl)
 .refine As U ?_;focus
   refine Ew U<|Es<|Lv 3 U<|Bb U (fun g1=>?_) (fun g1=>?_);have h1:=dT g1;refine Lw U<|AA (Er U<|Ab ?_);rotate_left;have h1:=dF g1;refine Lw U<|AA (Er U<|Ab ?_);rotate_left
  all_goals (unfold ak;rw[g1];rfl)
 .refine As U ?_;focus
   refine Ew U<|Es<|Lv 3 U<|Bb U (fun g1=>?_) (fun g1=>?_);have h1:=dT g1;refine Lw U<|AA (Er U<|Ab ?_);rotate_left;have h1:=dF g1;refine Lw U<|AA (Er U<|Ab ?_);rotate_left
  all_goals (unfold ak;rw[g1];rfl)
 .refine As U ?_;focus
   refine Ew U<|Es<|Lv 3 U<|Bb U (fun g1=>?_) (fun g1=>?_);have h1:=dT g1;refine Lw U<|AA (Er U<|Ab ?_);rotate_left;have h1:=dF g1;refine Lw U<|AA (Er U<|Ab ?_);rotate_left
  all_goals (unfold ak;rw[g1];rfl)
 .refine As U ?_;focus
   refine Ew U<|Es<|Lv 3 U<|Bb U (fun g1=>?_) (fun g1=>?_);have h1:=dT g1;refine Lw U<|AA (Er U<|Ab ?_);rotate_left;have h1:=dF g1;refine Lw U<|AA (Er U<|Ab ?_);rotate_left
  all_goals (unfold ak;rw[g1];rfl)
 .refine As U ?_;focus
   refine Ew U<|Es<|Lv 3 U<|Bb U (fun g1=>?_) (fun g1=>?_);have h1:=dT g1;refine Lw U<|AA (Er U<|Ab ?_);rotate_left;have h1:=dF g1;refine Lw U<|AA (Er U<|Ab ?_);rotate_left
  all_goals (unfold we;rw[g1];rfl)
 .refine As U ?_;iterate 2 refine Ew U ?_
  refine Se (Er U ?_);exact Ab U;all_goals rfl
 .refine As U ?_;iterate 2 refine Ew U ?_
  refine Se (Er U ?_);exact Ab U;all_goals rfl
def KB:FuncId->List AV->Option AV:=fun f args=>match fE f with
 |some p=>match args with
  | [.int .u8 n]=>some (.bool (p n))
  |_=>none
 |none=>K0 f args
theorem allB (h:CM Tryz.prog 8 [] (.bool true)):Co Tryz.prog gn KB:=by
 intro f args v hv;unfold KB at hv;cases hb:fE f with
 |none=>rw[hb]at hv;exact TG h f args v hv
 |some p=>
  rw[hb]at hv;simp only at hv;split at hv
  .next n=>
   cases hv;exact Bp Aw Ag (TG h) (byte_to hb n) U U
  .cases hv
theorem hit_173 {n:Int}:KB 173 [.int .u8 n]=some (.bool (ak 65 90 n)):=rfl
theorem hit_162 {n:Int}:KB 162 [.int .u8 n]=some (.bool (ak 97 122 n)):=rfl
theorem hit_165 {n:Int}:KB 165 [.int .u8 n]=some (.bool (ak 65 90 n)):=rfl
theorem hit_230 {n:Int}:KB 230 [.int .u8 n]=some (.bool (ak 48 57 n)):=rfl
theorem XS {g:FuncId} (hg:(fE g).isSome=true):CI (EK KB) g=true:=by
 unfold fE at hg;split at hg
 all_goals first|exact absurd hg (by decide)|kernel_rfl
abbrev Str:= {w:List UInt8//w.length<=100000}
theorem row_to {g:FuncId} {p:Int->Bool} (hg:fE g=some p) (w:List UInt8) (hw:w.length<=100000):Cj (EK KB) 174 [.J w,.G' (.func g) [] []] S0 (.int .i64 (tw p w:Nat)):=by
 have hle:=Vp p w;have hb:=XS (g:=g) (by rw[hg];rfl);have hk:∀n,KB g [.int .u8 n]=some (.bool (p n)):=fun n=>by unfold KB;rw[hg]
 refine As U ?_;iterate 2 refine Ew U ?_
 refine Sq<|Sb<|Ai (fun k:Nat=>([(5,.int .i64 (k:Nat)),(0,.J w),(1,.G' (.func g) [] [])],Y9 0 0 [] [])) (fun k=>w.length-k) (fun k=>k<=tw p w) 0 (Qo _) U (Ac (by trivial)) fun k hk0=>?_;by_cases C8:k<w.length
 .focus
   refine Sq<|Es<|Lv 2 U<|Lq (Az U U U U Zr U) U<|Lv 2 U<|Lb U (fun g1=>?_) (fun g1=>?_);have h1:=dT g1;iterate 3 refine Lh U g1 (kq U) ?_
   refine Lh U g1 (Bf U Zr U U (by omega)) ?_;rotate_left;have h1:=dF g1;omega
  refine CC.go U U U U g1 (F8 U U U hb U (Cj.ay (hk _))) U U ?_;focus
   refine Lq (oT U g1 U) U<|Ld<|Ec U (fun g2=>?_) (fun g2=>?_);refine Sk<|Sb<|Sr<|qm U<|Lq (ka (b:=1) U (by omega)) U<|Lw U ?_;rotate_left;refine Sx<|Ax U<|Ew U<|Se (Er U ?_);rotate_left
  .exact⟨k+1,(GV hk0 C8).1 g2,by show w.length-(k+1)<w.length-k;omega,U,U,Ac (by trivial)⟩
  .have h2:¬k<tw p w:=fun h=>by
    have:=(GV hk0 C8).2 h
    simp_all
   show AV.int .i64 (k:Nat)=_;rw[show k=tw p w by omega]
 .focus
   refine Sq<|Es<|Lv 2 U<|Lq (Az U U U U Zr U) U<|Lv 2 U<|Lb U (fun g1=>?_) (fun g1=>?_);have h1:=dT g1;omega;have h1:=dF g1;iterate 5 refine Lk U g1 ?_
   refine Lq (oF U g1 U) U<|Ld<|Tf U<|Sx<|Ax U<|Ew U<|Se (Er U ?_);rotate_left
  show AV.int .i64 (k:Nat)=_;rw[show k=tw p w by omega]
abbrev RowT:= {g:FuncId//(fE g).isSome=true}×Str
def encW (p:RowT):List AV:=[.J p.2.1,.G' (.func p.1.1) [] []]
def rowV (p:RowT):AV:= .int .i64 (tw ((fE p.1.1).getD fun _=>false) p.2.1:Nat)
noncomputable def Ka:=CX KB 174 encW rowV
theorem WV {g:FuncId} {p:Int->Bool} (hg:fE g=some p) {w:List UInt8} (hw:w.length<=100000):Ka 174 [.J w,.G' (.func g) [] []]=some (.int .i64 (tw p w:Nat)):=by
 have:=Aj (K:=KB) (f:=174) (enc:=encW) (res:=rowV) (by
  rintro⟨⟨a,_⟩,⟨b,_⟩⟩ ⟨⟨c,_⟩,⟨d,_⟩⟩ h;cases h;rfl) (⟨g,by rw[hg];rfl⟩,⟨w,hw⟩)
 refine this.trans ?_;show some (AV.int .i64 (tw ((fE g).getD fun _=>false) w:Nat))=_;rw[hg];rfl
theorem alla (h:CM Tryz.prog 8 [] (.bool true)):Co Tryz.prog gn Ka:=
 Al Aw Ag (allB h) (fun p:RowT=>by
  obtain⟨⟨g,hg⟩,w⟩:=p;obtain⟨p,hp⟩:=Option.isSome_iff_exists.1 hg;have:=row_to hp w.1 w.2;unfold encW rowV;dsimp only;rw[hp];exact this) (fun _=>rfl) (fun _=>rfl)
theorem Px (w:List UInt8) (k n:Nat):(w.drop k).getD n 0=w.getD (k+n) 0:=by
 rw[List.getD_eq_getElem?_getD,List.getD_eq_getElem?_getD,List.getElem?_drop]
abbrev StrK:= {p:List UInt8×Nat//p.1.length<=100000/\p.2<=p.1.length}
def encK (p:StrK):List AV:=[.J p.1.1,.int .i64 (p.1.2:Nat)]
theorem encK_inj (a b:StrK) (h:encK a=encK b):a=b:=by
 obtain⟨⟨a,i⟩,_⟩:=a;obtain⟨⟨b,j⟩,_⟩:=b;have h1:=AV.J.inj (List.cons.inj h).1;have h2:=(AV.int.inj (List.cons.inj (List.cons.inj h).2).1).2;dsimp only at h1 h2;obtain rfl:=h1;obtain rfl:=Int.ofNat.inj h2;rfl
theorem V7 (w:List UInt8) (k:Nat) (hw:w.length<=100000) (hkw:k<=w.length):Cj (EK Ka) 163 [.J w,.int .i64 (k:Nat)] S0 (.int .i64 (tw (ak 97 122) (w.drop k):Nat)):=by
 have hle:=Vp (ak 97 122) (w.drop k);have hl:(w.drop k).length=w.length-k:=List.length_drop;refine As U ?_;iterate 2 refine Ew U ?_
 refine Sq<|Sb<|Ai (fun i:Nat=>([(5,.int .i64 (i:Nat)),(0,.J w),(1,.int .i64 (k:Nat))],Y9 0 0 [] [])) (fun i=>w.length-i) (fun i=>i<=tw (ak 97 122) (w.drop k)) 0 (Qo _) U (Ac (by trivial)) fun i hi=>?_;have Zc:=GV (p:=ak 97 122) (w:=w.drop k) hi;rw[Px]at Zc;focus
  refine Sq<|Es<|Lv 2 U<|Lq (ka U (by omega)) U<|qm U<|Lq (Az U U U U Zr U) U<|Lv 2 U<|Bd U (fun h1=>?_) (fun h1=>?_);refine Lv 3 U<|Lh U U (ka U (by omega))<|Lh U U (Bf U Zr U U (by omega))<|Lg U U (kc U (hit_162))<|Lw U<|Cb U (fun g2=>?_) (fun g2=>?_);refine Sk<|Sb<|Sr<|qm U<|Lq (ka (b:=1) U (by omega)) U<|Lw U ?_;rotate_left;refine Sx<|Ax U<|Ew U<|Se (Er U ?_);rotate_left;refine Lw U<|Tf U<|Sx<|Ax U<|Ew U<|Se (Er U ?_);rotate_left
 .exact⟨i+1,(Zc (by omega)).1 g2,by show w.length-(i+1)<w.length-i;omega,U,U,Ac (by trivial)⟩
 .have h2:¬i<tw (ak 97 122) (w.drop k):=fun h=>by
   have:=(Zc (by omega)).2 h
   simp_all
  show AV.int .i64 (i:Nat)=_;rw[show i=tw (ak 97 122) (w.drop k) by omega]
 .show AV.int .i64 (i:Nat)=_;rw[show i=tw (ak 97 122) (w.drop k) by omega]
theorem XA (w:List UInt8) (k:Nat) (hw:w.length<=100000) (hkw:k<=w.length):Cj (EK Ka) 166 [.J w,.int .i64 (k:Nat)] S0 (.int .i64 (tw (ak 48 57) (w.drop k):Nat)):=by
 have hle:=Vp (ak 48 57) (w.drop k);have hl:(w.drop k).length=w.length-k:=List.length_drop;refine As U ?_;iterate 2 refine Ew U ?_
 refine Sq<|Sb<|Ai (fun i:Nat=>([(5,.int .i64 (i:Nat)),(0,.J w),(1,.int .i64 (k:Nat))],Y9 0 0 [] [])) (fun i=>w.length-i) (fun i=>i<=tw (ak 48 57) (w.drop k)) 0 (Qo _) U (Ac (by trivial)) fun i hi=>?_;have Zc:=GV (p:=ak 48 57) (w:=w.drop k) hi;rw[Px]at Zc;focus
  refine Sq<|Es<|Lv 2 U<|Lq (ka U (by omega)) U<|qm U<|Lq (Az U U U U Zr U) U<|Lv 2 U<|Bd U (fun h1=>?_) (fun h1=>?_);refine Lv 3 U<|Lh U U (ka U (by omega))<|Lh U U (Bf U Zr U U (by omega))<|Lg U U (kc U (hit_230))<|Lw U<|Cb U (fun g2=>?_) (fun g2=>?_);refine Sk<|Sb<|Sr<|qm U<|Lq (ka (b:=1) U (by omega)) U<|Lw U ?_;rotate_left;refine Sx<|Ax U<|Ew U<|Se (Er U ?_);rotate_left;refine Lw U<|Tf U<|Sx<|Ax U<|Ew U<|Se (Er U ?_);rotate_left
 .exact⟨i+1,(Zc (by omega)).1 g2,by show w.length-(i+1)<w.length-i;omega,U,U,Ac (by trivial)⟩
 .have h2:¬i<tw (ak 48 57) (w.drop k):=fun h=>by
   have:=(Zc (by omega)).2 h
   simp_all
  show AV.int .i64 (i:Nat)=_;rw[show i=tw (ak 48 57) (w.drop k) by omega]
 .show AV.int .i64 (i:Nat)=_;rw[show i=tw (ak 48 57) (w.drop k) by omega]
noncomputable def Kb:=CX Ka 163 encK (fun p=> .int .i64 (tw (ak 97 122) (p.1.1.drop p.1.2):Nat))
noncomputable def Kc:=CX Kb 166 encK (fun p=> .int .i64 (tw (ak 48 57) (p.1.1.drop p.1.2):Nat))
theorem hq_163 {w:List UInt8} {k:Nat} (hw:w.length<=100000) (hk:k<=w.length):Kb 163 [.J w,.int .i64 (k:Nat)]=some (.int .i64 (tw (ak 97 122) (w.drop k):Nat)):=
 Aj (enc:=encK) (fun a b h=>by rw[encK_inj a b h]) ⟨(w,k),hw,hk⟩
def u_ (w:List UInt8):Bool:=CK w [100,97,116,97]||(CK w [108,101,116]||(CK w [105,110]||(CK w [119,104,101,110]||CK w [116,104,101,110])))
theorem rword_to (w:List UInt8):Cj (EK Kc) 164 [.J w] S0 (.bool (u_ w)):=by
 refine As U ?_;unfold u_;focus
  refine Ew U<|Es<|qm U<|Lq (Bx U Zr U U U U) U<|qm U<|Bb U (fun g1=>?_) (fun g1=>?_);have h1:=bT g1;refine Lw U<|Se (Er U<|Ab ?_);rotate_left;have h1:=bF g1;refine Lv 1 U<|Lh U U (Bx U Zr U U U U)<|Lv 2 U<|Bb U (fun g2=>?_) (fun g2=>?_);have h2:=bT g2;refine Lw U<|Se (Er U<|Ab ?_);rotate_left;have h2:=bF g2;refine Lv 1 U<|Lh U U (Bx U Zr U U U U)<|Lv 2 U<|Bb U (fun g3=>?_) (fun g3=>?_);have h3:=bT g3;refine Lw U<|Se (Er U<|Ab ?_);rotate_left;have h3:=bF g3;refine Lv 1 U<|Lh U U (Bx U Zr U U U U)<|Lv 2 U<|Bb U (fun g4=>?_) (fun g4=>?_);have h4:=bT g4;refine Lw U<|Se (Er U<|Ab ?_);rotate_left;have h4:=bF g4;refine Lv 1 U<|Lh U U (Bx U Zr U U U U)<|Lw U<|Se (Er U<|Ab ?_);rotate_left
 all_goals (
  (first|rw[show CK w [100,97,116,97]=true from g1]|rw[show CK w [100,97,116,97]=false from g1])
  (try (first|rw[show CK w [108,101,116]=true from g2]|rw[show CK w [108,101,116]=false from g2]))
  (try (first|rw[show CK w [105,110]=true from g3]|rw[show CK w [105,110]=false from g3]))
  (try (first|rw[show CK w [119,104,101,110]=true from g4]|rw[show CK w [119,104,101,110]=false from g4]))
  (try (first|rw[show CK w [116,104,101,110]=true from g5]|rw[show CK w [116,104,101,110]=false from g5]))
  rfl)
theorem word_to (w:List UInt8):Cj (EK Kc) 110 [.J w] S0 (.bool (u_ w)):=by
 refine As U ?_;unfold u_;focus
  refine Ew U<|Es<|Lo (AL 1 U MM Ia tn U U U U) U<|qm U<|AR (fn:=Tryz.f111) U U U U U U U U U U U U U<|Ew U<|Es<|Lv 2 U<|AR (fn:=Tryz.f175) U U U U U U U U U U U U U<|Ew U<|Sq<|Ew U<|Sb<|A3<|Ew U<|Sq<|Tt U<|Sk<|Sq<|Sb<|Ew U<|Es<|Lv 3 U<|Lq (kM (k:=0) U (by omega)) U<|Ls 1 U<|Lq (Bx U Zr U U U U) U<|Ld<|Cb U (fun g1=>?_) (fun g1=>?_);have h1:=bT g1;refine Ew U<|Se (AC (Zx.same U (Aa U U) U U U U ?_));refine Lw U<|Se (AC (Zx.same U (Aa U U) U U U U ?_));refine Lw U<|Se (Er U<|Ab ?_);rotate_left;have h1:=bF g1;refine Sk<|Sr<|Lq (ka (a:=0) (b:=1) U (by omega)) U<|Lw U<|A3<|Ew U<|Sq<|Tt U<|Sk<|Sq<|Sb<|Ew U<|Es<|Lv 3 U<|Lq (kM (k:=1) U (by omega)) U<|Ls 1 U<|Lq (Bx U Zr U U U U) U<|Ld<|Cb U (fun g2=>?_) (fun g2=>?_)
  have h2:=bT g2;refine Ew U<|Se (AC (Zx.same U (Aa U U) U U U U ?_));refine Lw U<|Se (AC (Zx.same U (Aa U U) U U U U ?_));refine Lw U<|Se (Er U<|Ab ?_);rotate_left;have h2:=bF g2;refine Sk<|Sr<|Lq (ka (a:=1) (b:=1) U (by omega)) U<|Lw U<|A3<|Ew U<|Sq<|Tt U<|Sk<|Sq<|Sb<|Ew U<|Es<|Lv 3 U<|Lq (kM (k:=2) U (by omega)) U<|Ls 1 U<|Lq (Bx U Zr U U U U) U<|Ld<|Cb U (fun g3=>?_) (fun g3=>?_);have h3:=bT g3;refine Ew U<|Se (AC (Zx.same U (Aa U U) U U U U ?_));refine Lw U<|Se (AC (Zx.same U (Aa U U) U U U U ?_));refine Lw U<|Se (Er U<|Ab ?_);rotate_left;have h3:=bF g3;refine Sk<|Sr<|Lq (ka (a:=2) (b:=1) U (by omega)) U<|Lw U<|A3<|Ew U<|Sq<|Tt U<|Sk<|Sq<|Sb<|Ew U<|Es<|Lv 3 U<|Lq (kM (k:=3) U (by omega)) U<|Ls 1 U<|Lq (Bx U Zr U U U U) U<|Ld<|Cb U (fun g4=>?_) (fun g4=>?_);have h4:=bT g4;refine Ew U<|Se (AC (Zx.same U (Aa U U) U U U U ?_));refine Lw U<|Se (AC (Zx.same U (Aa U U) U U U U ?_));refine Lw U<|Se (Er U<|Ab ?_);rotate_left;have h4:=bF g4;refine Sk<|Sr<|Lq (ka (a:=3) (b:=1) U (by omega)) U<|Lw U<|A3<|Ew U<|Sq<|Tt U<|Sk<|Sq<|Sb<|Ew U<|Es<|Lv 3 U<|Lq (kM (k:=4) U (by omega)) U<|Ls 1 U<|Lq (Bx U Zr U U U U) U<|Ld<|Cb U (fun g5=>?_) (fun g5=>?_);have h5:=bT g5;refine Ew U<|Se (AC (Zx.same U (Aa U U) U U U U ?_));refine Lw U<|Se (AC (Zx.same U (Aa U U) U U U U ?_));refine Lw U<|Se (Er U<|Ab ?_);rotate_left;have h5:=bF g5;refine Sk<|Sr<|Lq (ka (a:=4) (b:=1) U (by omega)) U<|Lw U<|A3<|Ew U<|Sq<|Tf U<|Sx<|Ax U<|Ew U<|Se (AC (Zx.same U (Aa U U) U U U U ?_));refine Lw U<|Se (AC (Zx.same U (Aa U U) U U U U ?_));refine Lw U<|Se (Er U<|Ab ?_);rotate_left
 all_goals (
  (first|rw[show CK w [100,97,116,97]=true from g1]|rw[show CK w [100,97,116,97]=false from g1])
  (try (first|rw[show CK w [108,101,116]=true from g2]|rw[show CK w [108,101,116]=false from g2]))
  (try (first|rw[show CK w [105,110]=true from g3]|rw[show CK w [105,110]=false from g3]))
  (try (first|rw[show CK w [119,104,101,110]=true from g4]|rw[show CK w [119,104,101,110]=false from g4]))
  (try (first|rw[show CK w [116,104,101,110]=true from g5]|rw[show CK w [116,104,101,110]=false from g5]))
  rfl)
def encS (w:List UInt8):List AV:=[.J w]
theorem Tw (a b:List UInt8) (h:encS a=encS b):a=b:=AV.J.inj (List.cons.inj h).1
noncomputable def Kd0:=CX Kc 164 encS (fun w=> .bool (u_ w))
noncomputable def Kd:=CX Kd0 110 encS (fun w=> .bool (u_ w))
theorem hq_164 {w:List UInt8}:Kd0 164 [.J w]=some (.bool (u_ w)):=Aj (fun a b h=>by rw[Tw a b h]) w
theorem hq_110 {w:List UInt8}:Kd 110 [.J w]=some (.bool (u_ w)):=Aj (fun a b h=>by rw[Tw a b h]) w
theorem alld (h:CM Tryz.prog 8 [] (.bool true)):Co Tryz.prog gn Kd:=by
 have a1:Co Tryz.prog gn Kb:=Al Aw Ag (alla h) (fun p:StrK=>V7 p.1.1 p.1.2 p.2.1 p.2.2) (fun _=>rfl) (fun _=>rfl);have a2:Co Tryz.prog gn Kc:=AE a1 fun p:StrK=>Bp Aw Ag (alla h) (XA p.1.1 p.1.2 p.2.1 p.2.2) rfl rfl;have a3:Co Tryz.prog gn Kd0:=Al Aw Ag a2 rword_to (fun _=>rfl) (fun _=>rfl);exact AE a3 fun w=>Bp Aw Ag a2 (word_to w) U U
def ZZ (n a b:Int):Bool:=decide (a<=n)&&decide (n<=b)
section
variable {K : FuncId -> List AV -> Option AV} (n a b : Int)
theorem in0_to (hK:K 179=fun _=>none):Cj (EK K) 179 [.int .i64 n,.int .i64 a,.int .i64 b] S0 (.bool (ZZ n a b)):=by
 refine Bt (fn:=Tryz.f179) U (by show K 179 _=none;rw[hK]) U U U U U ?_;focus
  refine Ew U<|Es<|Lv 4 U<|Bb U (fun g1=>?_) (fun g1=>?_);have h1:=dT g1;refine Lw U<|AA (Er U<|Ab ?_);rotate_left;have h1:=dF g1;refine Lw U<|AA (Er U<|Ab ?_);rotate_left
 all_goals (unfold ZZ;rw[g1];rfl)
theorem in2_to (hK:K 191=fun _=>none):Cj (EK K) 191 [.int .i64 n,.int .i64 a,.int .i64 b] S0 (.bool (ZZ n a b)):=by
 refine Bt (fn:=Tryz.f191) U (by show K 191 _=none;rw[hK]) U U U U U ?_;focus
  refine Ew U<|Es<|Lv 4 U<|Bb U (fun g1=>?_) (fun g1=>?_);have h1:=dT g1;refine Lw U<|AA (Er U<|Ab ?_);rotate_left;have h1:=dF g1;refine Lw U<|AA (Er U<|Ab ?_);rotate_left
 all_goals (unfold ZZ;rw[g1];rfl)
end
noncomputable def K1a:=CX Kd 179 (fun p:Int×Int×Int=>[.int .i64 p.1,.int .i64 p.2.1,.int .i64 p.2.2]) (fun p=> .bool (ZZ p.1 p.2.1 p.2.2))
noncomputable def K1:=CX K1a 191 (fun p:Int×Int×Int=>[.int .i64 p.1,.int .i64 p.2.1,.int .i64 p.2.2]) (fun p=> .bool (ZZ p.1 p.2.1 p.2.2))
section
variable {n a b : Int}
theorem D1:K1a 179 [.int .i64 n,.int .i64 a,.int .i64 b]=some (.bool (ZZ n a b)):=Aj (by rintro⟨a,b,c⟩ ⟨d,e,f⟩ h;cases h;rfl) (n,a,b)
theorem Dj:K1 191 [.int .i64 n,.int .i64 a,.int .i64 b]=some (.bool (ZZ n a b)):=Aj (by rintro⟨a,b,c⟩ ⟨d,e,f⟩ h;cases h;rfl) (n,a,b)
end
theorem all1 (h:CM Tryz.prog 8 [] (.bool true)):Co Tryz.prog gn K1:=by
 have a0:=alld h;have a1:Co Tryz.prog gn K1a:=AE a0 fun p=>Bp Aw Ag a0 (in0_to p.1 p.2.1 p.2.2 rfl) rfl rfl;exact AE a1 fun p=>Bp Aw Ag a1 (in2_to p.1 p.2.1 p.2.2 U) U U
def ZJ (n:Int):Bool:=(decide (97<=n)&&decide (n<=122))||(decide (65<=n)&&decide (n<=90))
def jg (w:List UInt8):Bool:=decide (tw ZJ w=w.length)&&ZZ w.length 1 8
theorem Ri {w:List UInt8} (h:tw ZJ w<w.length):jg w=false:=by
 unfold jg;rw[decide_eq_false (by omega)];rfl
theorem DY {w:List UInt8} {i:Nat} (hi:i<=tw ZJ w) (h:i<w.length) (hn:ZJ (w.getD i 0).toNat=false):jg w=false:=
 Ri (by
  have:=(GV hi h).2;have:¬i<tw ZJ w:=fun C8=>by rw[this C8]at hn;cases hn
  omega)
theorem Gz {w:List UInt8} {i:Nat} (hi:i<=tw ZJ w) (h:i<w.length) (hn:ZJ (w.getD i 0).toNat=true):i+1<=tw ZJ w:=(GV hi h).1 hn
theorem Mg (n:Int):ZJ n=true↔(97<=n/\n<=122)\/(65<=n/\n<=90):=by
 unfold ZJ;simp only[Bool.or_eq_true,Qf,decide_eq_true_eq]
theorem H9 {n:Int} (h:(97<=n/\n<=122)\/(65<=n/\n<=90)):ZJ n=true:=(Mg n).2 h
theorem D0 {n:Int} (h:¬((97<=n/\n<=122)\/(65<=n/\n<=90))):ZJ n=false:=by
 cases hb:ZJ n with
 |false=>rfl
 |true=>exact absurd ((Mg n).1 hb) h
theorem name_to (w:List UInt8) (hw:w.length<=4000):Cj (EK K1) 244 [.J w] S0 (.bool (jg w)):=by
 refine As U ?_;have hle:=Vp ZJ w;refine Ew U<|Sq<|Ew U<|Sb<|Ai (fun i:Nat=>([(3,.int .i64 (i:Nat)),(0,.J w)],Y9 0 0 [] [])) (fun i=>w.length-i) (fun i=>i<=tw ZJ w) 0 (Qo _) U (Ac (by trivial)) fun i hi=>?_;focus
  refine Sq<|Es<|Lv 2 U<|Lq (Az U U U U Zr U) U<|Lw U<|Cd U (fun h1=>?_) (fun h1=>?_);refine Sk<|Sq<|Sb<|Es<|Lv 2 U<|Lq (Bf U Zr U U (by omega)) U<|Lv 2 U<|Bd U (fun h2=>?_) (fun h2=>?_);refine Lv 8 U<|Lh U U (Bf U Zr U U (by omega))<|Lv 2 U<|Bd U (fun h3=>?_) (fun h3=>?_);refine Lw U<|Tt U<|Ew U<|Se (Er U<|Ab ?_);rotate_left;refine Lv 2 U<|Lh U U (Bf U Zr U U (by omega))<|Lw U<|Cd U (fun h4=>?_) (fun h4=>?_);refine Ew U<|Se (Er U<|Ab ?_);rotate_left;refine Sk<|Sr<|qm U<|Lq (ka (b:=1) U (by omega)) U<|Lw U ?_;rotate_left;refine Lv 2 U<|Lh U U (Bf U Zr U U (by omega))<|Lv 3 U<|Bd U (fun h5=>?_) (fun h5=>?_);refine Lv 2 U<|Lh U U (Bf U Zr U U (by omega))<|Lv 2 U<|Bd U (fun h6=>?_) (fun h6=>?_);omega;refine Lv 2 U<|Lh U U (Bf U Zr U U (by omega))<|Lw U<|Cd U (fun h7=>?_) (fun h7=>?_);refine Ew U<|Se (Er U<|Ab ?_);rotate_left;omega;refine Lw U<|Tf U<|Sk<|Sr<|qm U<|Lq (ka (b:=1) U (by omega)) U<|Lw U ?_;rotate_left;refine Sx<|Ax U<|Es<|qm U<|Lq (Az U U U U Zr U) U<|Lo (kc U (Dj)) U<|Lw U<|Se (Er U<|Ab ?_);rotate_left
 .exact(DY hi (by omega) (D0 (by omega))).symm
 .exact(DY hi (by omega) (D0 (by omega))).symm
 .exact⟨i+1,Gz hi (by omega) (H9 (by omega)),by show w.length-(i+1)<w.length-i;omega,U,U,Ac (by trivial)⟩
 .exact(DY hi (by omega) (D0 (by omega))).symm
 .exact⟨i+1,Gz hi (by omega) (H9 (by omega)),by show w.length-(i+1)<w.length-i;omega,U,U,Ac (by trivial)⟩
 .have e:tw ZJ w=w.length:=by omega
  unfold jg;rw[decide_eq_true e];rfl
noncomputable def K1n:=CX K1 244 (fun w: {w:List UInt8//w.length<=4000}=>[.J w.1]) (fun w=> .bool (jg w.1))
theorem hit_244 {w:List UInt8} (hw:w.length<=4000):K1n 244 [.J w]=some (.bool (jg w)):=
 Aj (enc:=fun w: {w:List UInt8//w.length<=4000}=>[.J w.1]) (by rintro⟨a,_⟩ ⟨b,_⟩ h;cases h;rfl) ⟨w,hw⟩
theorem TS (w:List UInt8) (hw:w.length<=4000):Cj (EK K1n) 178 [.J w] S0 (.bool (jg w)):=by
 refine As U ?_;have hle:=Vp ZJ w;refine Ew U<|Sq<|Es<|qm U<|Lo (NU 1 U Zr U U) U<|Ld<|Sb<|Ai (fun x:Nat×St=>([(6,.Z 0 0),(0,.J w)],x.2)) (fun x=>w.length-x.1) (fun x=>x.1<=tw ZJ w/\x.2.b=0/\x.2.c=[]/\x.2.heap.u 0=some (.aD w x.1)) (0,Y9 1 0 [] [(0,some (.aD w 0))]) ⟨Qo _,rfl,rfl,AD 0⟩ U (Ac (by trivial)) ?_;rintro⟨i,st⟩ ⟨hi,aO,Z9,hg⟩;dsimp only at hi aO Z9 hg|-;refine Es ?_;rcases Nat.lt_or_ge i w.length with h|h
 .by_cases hc:(w.getD i 0).toNat<128
  .refine Lo (RM U U hg h hc) U ?_;focus
    refine Lw U<|Sq<|Tt U<|Sk<|Sb<|Ew U<|Es<|Lv 3 U<|Bd U (fun h1=>?_) (fun h1=>?_);refine Lv 4 U<|Bd U (fun h2=>?_) (fun h2=>?_);refine Lw U<|Tf U<|Sk ?_;rotate_left;refine Lv 3 U<|Bd U (fun h3=>?_) (fun h3=>?_);refine Lw U<|Ce U (fun h4=>?_) (fun h4=>?_);refine Ew U ?_;rotate_left;omega;omega;refine Lv 7 U<|Bd U (fun h5=>?_) (fun h5=>?_);refine Lw U<|Ce U (fun h6=>?_) (fun h6=>?_);refine Ew U ?_;rotate_left;refine Sk ?_;rotate_left;refine Lw U<|Tt U<|Ew U ?_;rotate_left
   .exact⟨(i+1,st.B 0 (some (.aD w (i+1)))),⟨Gz hi h (H9 (by omega)),aO,(Bu aO).trans Z9,by rw[AF,if_pos rfl]⟩,by show w.length-(i+1)<w.length-i;omega,U,U,Ac (by trivial)⟩
   .try refine Se ⟨.inl rfl,rfl,(Bu aO).trans Z9,aO,_,_,_,(Aa rfl rfl),rfl,rfl,?_⟩
    rw[DY hi h (D0 (by omega))];rfl
   .try refine Se ⟨.inl rfl,rfl,(Bu aO).trans Z9,aO,_,_,_,(Aa rfl rfl),rfl,rfl,?_⟩
    rw[DY hi h (D0 (by omega))];rfl
   .exact⟨(i+1,st.B 0 (some (.aD w (i+1)))),⟨Gz hi h (H9 (by omega)),aO,(Bu aO).trans Z9,by rw[AF,if_pos rfl]⟩,by show w.length-(i+1)<w.length-i;omega,U,U,Ac (by trivial)⟩
   .try refine Se ⟨.inl rfl,rfl,(Bu aO).trans Z9,aO,_,_,_,(Aa rfl rfl),rfl,rfl,?_⟩
    rw[DY hi h (D0 (by omega))];rfl
  .obtain⟨r,d,hr,ho⟩:=Q9 hg h hc;refine Lo (ho U U) U ?_;focus
    refine Lw U<|Sq<|Tt U<|Sk<|Sb<|Ew U<|Es<|Lv 3 U<|Bd U (fun h1=>?_) (fun h1=>?_);refine Lv 4 U<|Bd U (fun h2=>?_) (fun h2=>?_);omega;refine Lv 3 U<|Bd U (fun h3=>?_) (fun h3=>?_);refine Lw U<|Ce U (fun h4=>?_) (fun h4=>?_);refine Ew U ?_;rotate_left;omega;omega;omega
   .try refine Se ⟨.inl rfl,rfl,(Bu aO).trans Z9,aO,_,_,_,(Aa rfl rfl),rfl,rfl,?_⟩
    rw[DY hi h (D0 (by omega))];rfl
 .refine Lo (RN U U hg (by omega)) U<|Lw U<|Sq<|Tf U<|Sx<|Ax U<|Es<|qm U<|Lq (Az U U U U Zr U) U<|Lo (kc U (D1)) U<|Lw U<|Se ⟨.inl U,U,Z9,aO,_,_,_,(Aa U U),U,U,?_⟩;refine Ab ?_;try refine Se ⟨.inl rfl,rfl,Z9,aO,_,_,_,(Aa rfl rfl),rfl,rfl,?_⟩
  have e:tw ZJ w=w.length:=by omega
  unfold jg;rw[decide_eq_true e];rfl
noncomputable def K1s:=CX K1n 178 (fun w: {w:List UInt8//w.length<=4000}=>[.J w.1]) (fun w=> .bool (jg w.1))
theorem hit_178 {w:List UInt8} (hw:w.length<=4000):K1s 178 [.J w]=some (.bool (jg w)):=
 Aj (enc:=fun w: {w:List UInt8//w.length<=4000}=>[.J w.1]) (by rintro⟨a,_⟩ ⟨b,_⟩ h;cases h;rfl) ⟨w,hw⟩
theorem all1s (h:CM Tryz.prog 8 [] (.bool true)):Co Tryz.prog gn K1s:=by
 have a1:Co Tryz.prog gn K1n:=AE (all1 h) fun p=>Bp Aw Ag (all1 h) (name_to p.1 p.2) rfl rfl;exact AE a1 fun p=>Bp Aw Ag a1 (TS p.1 p.2) U U
theorem Tk {α:Type} {enc:α->List AV} {k:Nat} (hi:∀a b,enc a=enc b->a=b) (hl:∀a,(enc a).length=k+1):∀ {l m:List α},l.flatMap enc=m.flatMap enc->l=m
 | [],[],_=>rfl
 | [],b::m,h=>by
  have:=congrArg List.length h;rw[List.flatMap_cons,Qm,hl b,List.flatMap_nil,List.length_nil]at this;omega
 |a::l,[],h=>by
  have:=congrArg List.length h;rw[List.flatMap_cons,Qm,hl a,List.flatMap_nil,List.length_nil]at this;omega
 |a::l,b::m,h=>by
  rw[List.flatMap_cons,List.flatMap_cons]at h;obtain⟨h1,h2⟩:=List.append_inj h ((hl a).trans (hl b).symm);rw[hi a b h1,Tk hi hl h2]
theorem B8 {α:Type} {enc:α->List AV} {k:Nat} (hi:∀a b,enc a=enc b->a=b) (hl:∀a,(enc a).length=k+1) {l m:List α} (h:Cp enc (k+1) l=Cp enc (k+1) m):l=m:=by
 unfold Cp at h;exact Tk hi hl (AV.Ck.inj h).1
abbrev Ci:=List UInt8×Int
def Cq (p:Ci):List AV:=[.J p.1,.int .i64 p.2]
theorem A0 (p:Ci):(Cq p).length=1+1:=rfl
theorem BP (a b:Ci) (h:Cq a=Cq b):a=b:=by
 obtain⟨a1,a2⟩:=a;obtain⟨b1,b2⟩:=b;cases h;rfl
def cO (l:List Ci) (i:Nat):Bool:=(l.take i).all fun p=>decide (p.1.length<=30)
theorem Ie {l:List Ci} {i:Nat} (h:i<l.length):cO l (i+1)=(cO l i&&decide (l[i].1.length<=30)):=by
 unfold cO;rw[List.take_add_one,Qi h,Option.toList_some,List.all_append];simp
theorem VC {l:List Ci} {i:Nat} (h:cO l l.length=true) (hi:i<=l.length):cO l i=true:=by
 unfold cO at h|-;rw[List.take_length]at h;exact List.all_eq_true.2 fun x hx=>List.all_eq_true.1 h x (List.mem_of_mem_take hx)
theorem Sn {l:List Ci} {i:Nat} (h:i<l.length) (hn:¬l[i].1.length<=30):cO l l.length=false:=by
 cases hb:cO l l.length with
 |false=>rfl
 |true=>
  have:=VC hb h;rw[Ie h,decide_eq_false hn,Bool.and_false]at this;cases this
def bc (c f:List Ci):Bool:= !(decide (16<(c.length:Int))||decide (12<(f.length:Int)))&&(cO c c.length&&cO f f.length)
theorem QO (c f:List Ci):Cj (EK K1s) 52 [.agg [Cp Cq 2 c,Cp Cq 2 f]] S0 (.bool (bc c f)):=by
 refine As U ?_;focus
  refine Eh U<|Sq<|Es<|Ls 5 U<|Bb U (fun g1=>?_) (fun g1=>?_);have h1:=dT g1;refine Lw U<|Tt U<|Ew U<|Se (Er U<|Ab ?_);rotate_left;have h1:=dF g1;refine Lx U<|Cb U (fun g2=>?_) (fun g2=>?_);have h2:=dT g2;refine Ew U<|AA (Er U<|Ab ?_);rotate_left;have h2:=dF g2;refine Gi<|BT<|Ew U<|CA.block ?_;rotate_left
 .unfold bc;rw[g1];rfl
 .unfold bc;rw[g1,g2];rfl
 refine Ai (fun i:Nat=>([(3,.int .i64 (i:Nat)),(1,.Z 0 0)],Y9 1 0 [] [(0,some (.J [Cp Cq 2 c,Cp Cq 2 f] 40 false))])) (fun i=>c.length-i) (fun i=>i<=c.length/\cO c i=true) 0 ⟨Qo _,rfl⟩ U (Ac (by trivial)) ?_;rintro i ⟨hi,hs⟩;dsimp only at hi hs|-;by_cases h:i<c.length
 .have hp:=A6 A0 h;focus
   refine Sq<|Eh U<|Cd U (fun h3=>?_) (fun h3=>?_);refine Sk<|Sq<|Sb<|Es<|Ls 3 U<|Lq (kv U hp) U<|Lv 2 U<|Lq (Az U U U U Zr U) U<|Lw U<|Cd U (fun h4=>?_) (fun h4=>?_);refine Ew U<|Se (Er U<|Ab ?_);rotate_left;refine Sk<|Sr<|qm U<|Lq (ka (b:=1) U (by omega)) U<|Lw U ?_;rotate_left;omega
  .have hc:cO c c.length=false:=Sn h (by omega);unfold bc;rw[hc,Bool.false_and,Bool.and_false]
  .exact⟨i+1,⟨h,by rw[Ie h,hs,decide_eq_true (show c[i].1.length<=30 by omega)];rfl⟩,by show c.length-(i+1)<c.length-i;omega,U,U,Ac (by trivial)⟩
 .focus
   refine Sq<|Eh U<|Cd U (fun h3=>?_) (fun h3=>?_);omega;refine Sx<|Ax U<|Sq<|Ew U<|Sb ?_;rotate_left
  obtain rfl:i=c.length:=by omega
  refine Ai (fun i:Nat=>([(4,.int .i64 (i:Nat)),(1,.Z 0 0)],Y9 1 0 [] [(0,some (.J [Cp Cq 2 c,Cp Cq 2 f] 40 false))])) (fun i=>f.length-i) (fun i=>i<=f.length/\cO f i=true) 0 ⟨Qo _,rfl⟩ U (Ac (by trivial)) ?_;rintro j ⟨hj,qK⟩;dsimp only at hj qK|-;by_cases h2:j<f.length
  .have hp:=A6 A0 h2;focus
    refine Sq<|Eh U<|Cd U (fun h4=>?_) (fun h4=>?_);refine Sk<|Sq<|Sb<|Es<|Ls 3 U<|Lq (kv U hp) U<|Lv 2 U<|Lq (Az U U U U Zr U) U<|Lw U<|Cd U (fun h5=>?_) (fun h5=>?_);refine Ew U<|Se (Er U<|Ab ?_);rotate_left;refine Sk<|Sr<|qm U<|Lq (ka (b:=1) U (by omega)) U<|Lw U ?_;rotate_left;omega
   .have hc:cO f f.length=false:=Sn h2 (by omega);unfold bc;rw[hc,Bool.and_false,Bool.and_false]
   .exact⟨j+1,⟨h2,by rw[Ie h2,qK,decide_eq_true (show f[j].1.length<=30 by omega)];rfl⟩,by show f.length-(j+1)<f.length-j;omega,U,U,Ac (by trivial)⟩
  .focus
    refine Sq<|Eh U<|Cb U (fun g4=>?_) (fun g4=>?_);have h4:=dT g4;omega;have h4:=dF g4;refine QB<|Ax U<|Ew U<|AA (Er U<|Ab ?_);rotate_left
   obtain rfl:j=f.length:=by omega
   unfold bc;rw[g1,g2,hs,qK];rfl
noncomputable def K2:=CX K1s 52 (fun p:List Ci×List Ci=>[.agg [Cp Cq 2 p.1,Cp Cq 2 p.2]]) (fun p=> .bool (bc p.1 p.2))
theorem Kz {p q:List Ci×List Ci} (h:([.agg [Cp Cq 2 p.1,Cp Cq 2 p.2]]:List AV)=[.agg [Cp Cq 2 q.1,Cp Cq 2 q.2]]):p=q:=by
 simp only[List.cons.injEq,AV.agg.injEq,and_true]at h;exact Prod.ext (B8 BP A0 h.1) (B8 BP A0 h.2)
theorem hit_52 {c f:List Ci}:K2 52 [.agg [Cp Cq 2 c,Cp Cq 2 f]]=some (.bool (bc c f)):=
 Aj (fun p q h=>by rw[Kz h]) (c,f)
theorem all2 (h:CM Tryz.prog 8 [] (.bool true)):Co Tryz.prog gn K2:=Al Aw Ag (all1s h) (fun p=>QO p.1 p.2) (fun _=>rfl) (fun _=>rfl)
def sI (before:List (List UInt8)) (p:Ci):Bool:= !(before.contains p.1)&&(jg p.1&&ZZ p.2 0 4)
def Zq:List (List UInt8)->List Ci->Option (List (List UInt8))
 |bs,[]=>some bs
 |bs,p::l=>if sI bs p then Zq (bs++[p.1]) l else none
def jM:List (List UInt8)->AV
 | []=> .Ca
 |a::l=> .Ck ((a::l).map .J) (a::l).length 1 true
theorem Si {l:List (List UInt8)} (h:l≠ []):jM l= .Ck (l.map .J) l.length 1 true:=by
 cases l with
 |nil=>exact absurd rfl h
 |cons a l=>rfl
theorem GX (l:List (List UInt8)):(l.map AV.J).all (Cm 40)=true:=by
 rw[List.all_map];exact List.all_eq_true.2 fun _ _=>rfl
theorem LJ (l:List (List UInt8)):(l.map AV.J).all jJ=true:=by
 rw[List.all_map];exact List.all_eq_true.2 fun _ _=>rfl
theorem aJ.ma {s:St} {v:AV} {l:List (List UInt8)} (h:aJ s v l) (hn:l=[]->v= .Ca) (m:Nat):∃ks,CW s 0 (m+2) v []=some (jM l,ks):=by
 rcases h with⟨rfl,rfl⟩|⟨cl,rfl⟩|⟨b,off,cap,cs,e,part,rfl,hb,hg,h1,h2,h3⟩
 .exact⟨[],U⟩
 .have ZT:l≠ []:=fun e=>by have:=hn e;cases this
  rw[Si ZT];cases cl with
  |true=>exact⟨[],rfl⟩
  |false=>
   refine⟨[],?_⟩;show(CW.many (CW s 0 (m+1)) (l.map .J) []).bind _=_;rw[Je (LJ l)];show some (AV.Ck _ _ _ ((l.map AV.J).all (Cm 40)),_)=_;rw[GX]
 .have ZT:l≠ []:=fun e=>by have:=hn e;cases this
  rw[Si ZT];refine⟨[b],?_⟩;show(Y4 (s.heap.u b)).bind _=_;rw[hg];show(y_ cs off (l.length*1)).bind _=_;have hc:y_ cs off (l.length*1)=some (l.map .J):=by
   rw[Nat.mul_one];rw[FX h1,h2]
  rw[hc];show(CW.many (CW s 0 (m+1)) (l.map .J) []).bind _=_;rw[Je (LJ l)];show some (AV.Ck _ _ _ ((l.map AV.J).all (Cm 40)),_)=_;rw[GX]
def qe:Option (List (List UInt8))->AV
 |some bs=> .O [jM bs,.bool true]
 |none=> .O [.Ca,.bool false]
theorem has_at {cs:List (List UInt8)} {j:Nat} {w:List UInt8} (h:j<cs.length) (e:cs[j]=w):cs.contains w=true:=by
 rw[<-e];simp
theorem has_no {cs:List (List UInt8)} {j:Nat} {w:List UInt8} (h:j<cs.length) (bG:(cs.take j).contains w=false) (e:cs[j]≠w):(cs.take (j+1)).contains w=false:=by
 rw[List.take_add_one,Qi h,Option.toList_some];simp only[List.contains_eq_mem,List.mem_append,Qp,decide_eq_false_iff_not]at bG|-;rintro(h1|h1)
 .exact bG h1
 .exact e h1.symm
theorem names_to (l:List Ci) (bs:List (List UInt8)) (hl:∀p∈l,p.1.length<=4000) (hn:l.length<=4000/\bs.length<=4000):
 Cj (EK K2) 192 [Cp Cq 2 l,jM bs] S0 (qe (Zq bs l)):=by
 refine As U<|Ew U<|Sq<|Ew U<|Sb<|Ai (fun x:Nat×AV×List (List UInt8)×St=>([(6,.int .i64 (x.1:Nat)),(0,Cp Cq 2 l),(1,x.2.1)],x.2.2.2)) (fun x=>l.length-x.1)
  (fun x=>x.1<=l.length/\x.2.2.2.b=0/\x.2.2.2.c=[]/\aJ x.2.2.2 x.2.1 x.2.2.1/\Zq bs l=Zq x.2.2.1 (l.drop x.1)/\x.2.2.1.length=bs.length+x.1/\(x.2.2.1=[]->x.2.1= .Ca)) (0,jM bs,bs,Y9 0 0 [] []) ⟨Qo _,rfl,rfl,?_,rfl,rfl,?_⟩ rfl (Ac (by trivial)) ?_
 .cases bs with
  |nil=>exact .inl ⟨rfl,rfl⟩
  |cons a t=>exact .inr (.inl ⟨true,rfl⟩)
 .rintro rfl;rfl
 rintro⟨i,v,cs,st⟩ ⟨hi,aO,Z9,Zc,hnv,bu,hnn⟩;dsimp only at hi aO Z9 Zc hnv bu hnn|-;by_cases h:i<l.length
 .have hp:=A6 A0 h;have ZV:=hl _ (Ql h);have hno0:sI cs l[i]=false->Zq bs l=none:=fun hb=>by
   rw[hnv,List.drop_eq_getElem_cons h];show(if sI cs l[i]then _ else none)=none;rw[hb];rfl
  focus
   refine Sq<|Ew U<|Cd U (fun h1=>?_) (fun h1=>?_);refine Sk<|Sq<|Sb<|Sq<|Ew U<|Sb ?_;rotate_left;omega
  refine Ai (fun j:Nat=>([(7,.int .i64 (j:Nat)),(6,.int .i64 (i:Nat)),(0,Cp Cq 2 l),(1,v)],st)) (fun j=>cs.length-j) (fun j=>j<=cs.length/\(cs.take j).contains l[i].1=false) 0 ⟨Qo _,rfl⟩ U (Ac (by trivial)) ?_;rintro j ⟨hj,bG⟩;dsimp only at hj bG|-;have hlen:=Zc.len;by_cases h2':j<cs.length
  .rcases Zc.at2 (E:=EK K2) h2' s9 Ia with⟨rest,tL⟩|⟨b,off,tL,hld⟩
   .focus
     refine Sq<|Es<|Lv 2 U<|Lq (kn U hlen) U<|Lw U<|Cd U (fun h2=>?_) (fun h2=>?_);refine Sk<|Sq<|Sb<|Af U<|Nv 2 U<|Nq (kv U tL) U<|Nv 3 U<|Nq (kv U hp) U<|Nv 2 U<|Nq (Bx U Zr U U U U) U<|CF.done<|Cb U (fun g3=>?_) (fun g3=>?_);have h3:=bT g3;refine Ew U<|Se ⟨.inl U,U,Z9,aO,_,_,_,(Aa U (Aa U U)),U,U,?_⟩;rotate_left;have h3:=bF g3;refine Sk<|Sr<|qm U<|Lq (ka (b:=1) U (by omega)) U<|Lw U ?_;rotate_left;omega
    .try refine Se ⟨.inl rfl,rfl,Z9,aO,_,_,_,(Aa rfl (Aa rfl rfl)),rfl,rfl,?_⟩
     rw[hno0 (by unfold sI;rw[has_at h2' h3];rfl)];rfl
    .exact⟨j+1,⟨h2',has_no h2' bG h3⟩,by show cs.length-(j+1)<cs.length-j;omega,U,U,Ac (by trivial)⟩
   .focus
     refine Sq<|Es<|Lv 2 U<|Lq (kn U hlen) U<|Lw U<|Cd U (fun h2=>?_) (fun h2=>?_);refine Sk<|Sq<|Sb<|Af U<|Nv 2 U<|Nq (kv U tL) U<|AI U U hld U (.inl U) U U<|Nv 2 U<|Nq (kv U hp) U<|Nv 2 U<|Nq (Bx U Zr U U U U) U<|CF.done<|Cb U (fun g3=>?_) (fun g3=>?_);have h3:=bT g3;refine Ew U<|Se ⟨.inl U,U,Z9,aO,_,_,_,(Aa U (Aa U U)),U,U,?_⟩;rotate_left;have h3:=bF g3;refine Sk<|Sr<|qm U<|Lq (ka (b:=1) U (by omega)) U<|Lw U ?_;rotate_left;omega
    .try refine Se ⟨.inl rfl,rfl,Z9,aO,_,_,_,(Aa rfl (Aa rfl rfl)),rfl,rfl,?_⟩
     rw[hno0 (by unfold sI;rw[has_at h2' h3];rfl)];rfl
    .exact⟨j+1,⟨h2',has_no h2' bG h3⟩,by show cs.length-(j+1)<cs.length-j;omega,U,U,Ac (by trivial)⟩
  .obtain rfl:j=cs.length:=by omega
   rw[List.take_length]at bG;focus
    refine Sq<|Es<|Lv 2 U<|Lq (kn U hlen) U<|Lw U<|Cd U (fun h2=>?_) (fun h2=>?_);omega;refine Sx<|Ax U<|Sq<|Es<|Lv 2 U<|Lq (kv U hp) U<|Lv 2 U<|Lo (kc U (hit_244 (by omega))) U<|Lv 2 U<|Bn U (fun h3=>?_) (fun h3=>?_);refine Lw U<|Tt U<|Ew U<|Se ⟨.inl U,U,Z9,aO,_,_,_,(Aa U (Aa U U)),U,U,?_⟩;rotate_left;refine Lv 2 U<|Lh U U (kv U hp)<|Lv 2 U<|Lg U U (kc U (Dj))<|Lw U<|Cn U (fun h4=>?_) (fun h4=>?_);refine Ew U<|Se ⟨.inl U,U,Z9,aO,_,_,_,(Aa U (Aa U U)),U,U,?_⟩;rotate_left;refine Sk<|BU U<|Nv 1 U ?_;rotate_left
   .try refine Se ⟨.inl rfl,rfl,Z9,aO,_,_,_,(Aa rfl (Aa rfl rfl)),rfl,rfl,?_⟩
    rw[hno0 (by unfold sI;rw[h3,Bool.false_and,Bool.and_false])];rfl
   .try refine Se ⟨.inl rfl,rfl,Z9,aO,_,_,_,(Aa rfl (Aa rfl rfl)),rfl,rfl,?_⟩
    rw[hno0 (by unfold sI;rw[h4,Bool.and_false,Bool.and_false])];rfl
   have ZO:sI cs l[i]=true:=by unfold sI;rw[bG,h3,h4];rfl
   have en:m_ (cs.map AV.J).length 16=true:=by
    rw[Qn];exact AP (by omega) (by decide)
   obtain⟨v1,s2,xD,gM,kP,nI,hG1,ho1,hk1,hml1,hmb1⟩:=Pz (st:=st) (e:=9) (CZ:=16) (new:=cs.map .J) en aO;refine CF.append U U U U MM Ia sH tn U U U U (Lu (Zc.aI (Qj _) fun _ _=>rfl)) (by rw[Qn]at xD;exact xD) gM (by rw[nI];intro b hb;cases hb) U U (.inl U) U U ?_;rw[nI];refine Nv 2 U<|Nq (kv U hp) U<|Nv 2 U<|B4 U MM Ia tn U U U (.inl U) U U ?_;generalize hst1:st.G s2=nr at*;have hG2:c_ (nr.A (.J [.J l[i].1] 9 false)) 9 1 v1 (cs.map .J) (cs.map AV.J).length:=hG1.aI (Nat.le_succ _) fun c hc=>by
    have:=ho1 c hc;have C8:c≠nr.a:=by
     intro e;rcases hG1 with⟨rfl,_⟩|⟨b,rfl,hb,_⟩
     .cases hc
     .have:=Qb hc;omega
    show(nr.heap.A nr.a _).u c=_;rw[Ap,if_neg C8]
   have qK:m_ ((cs.map AV.J).length+1) 16=true:=by
    rw[Qn];exact AP (by omega) (by decide)
   obtain⟨v2,s3,ha2,wW,hl3,hG3,ho3,hk3,hlg3⟩:=hG2.appendM (CZ:=16) (new:=[.J l[i].1]) rfl (by decide) rfl qK;refine CF.append U U U U MM Ia sH tn U U U U (n:=1) (new:=[.J l[i].1]) ?_ ha2 (by rw[wW];exact Nat.le_succ _) (fun b hb=>⟨hl3 b hb,?_⟩) U ?_ (.inl U) U U ?_
   .show(Y4 ((nr.heap.A nr.a _).u nr.a)).bind _=_;rw[Ap,if_pos rfl];rfl
   .exact Eb (T3 U (Jz U (Jz U U _) _))
   .exact T3 U (Jz U (Jz U U _) _)
   refine Nw U<|Sr<|qm U<|Lq (ka (b:=1) U (by omega)) U<|Lw U ?_;have xh:(nr.A (.J [.J l[i].1] 9 false)).b=0:=hmb1;refine⟨(i+1,v2,cs++[l[i].1],(nr.A (.J [.J l[i].1] 9 false)).G s3),⟨h,xh,(hlg3 xh).trans (hml1.trans Z9),c_.strs (n:=(cs.map AV.J).length+1) (by rw[List.map_append];exact hG3) (by simp),?_,by simp;omega,fun e=>by simp at e⟩,by show l.length-(i+1)<l.length-i;omega,rfl,rfl,Ac (by trivial)⟩;rw[hnv,List.drop_eq_getElem_cons h];show(if sI cs l[i]then _ else none)=_;rw[ZO];rfl
 .focus
   refine Sq<|Ew U<|Cd U (fun h1=>?_) (fun h1=>?_);omega;refine Sx<|Ax U<|Ew U ?_;rotate_left
  obtain rfl:i=l.length:=by omega
  rw[List.drop_length]at hnv;have hr:Zq bs l=some cs:=hnv;rw[hr];obtain⟨ks,hf⟩:=aJ.ma Zc hnn 37;refine Se ⟨.inl U,U,Z9,aO,_,.O [jM cs,.bool true],ks,(Aa U (Aa U U)),?_,?_,U⟩
  .show(CW.many (CW st 0 39) [v,.bool true] []).bind _=_;unfold CW.many CW.many CW.many;rw[hf];rfl
  .cases cs with
   |nil=>rfl
   |cons a t=>rfl
theorem Vz {a b:List (List UInt8)} (h:jM a=jM b):a=b:=by
 have hm:∀ {x y:List (List UInt8)},x.map AV.J=y.map AV.J->x=y:=fun {x y} h=>List.map_inj_right (fun _ _ h=>AV.J.inj h)|>.1 h;cases a with
 |nil=>cases b with
  |nil=>rfl
  |cons x y=>cases h
 |cons x y=>cases b with
  |nil=>cases h
  |cons z w=>exact hm (AV.Ck.inj h).1
abbrev uZ:= {p:List Ci×List (List UInt8)//(∀q∈p.1,q.1.length<=4000)/\p.1.length<=4000/\p.2.length<=4000}
noncomputable def K4:=CX K2 192 (fun p:uZ=>[Cp Cq 2 p.1.1,jM p.1.2]) (fun p=>qe (Zq p.1.2 p.1.1))
theorem WX {l:List Ci} {bs:List (List UInt8)} (h1:∀q∈l,q.1.length<=4000) (h2:l.length<=4000) (h3:bs.length<=4000):K4 192 [Cp Cq 2 l,jM bs]=some (qe (Zq bs l)):=
 Aj (f:=192) (enc:=fun p:uZ=>[Cp Cq 2 p.1.1,jM p.1.2]) (res:=fun p=>qe (Zq p.1.2 p.1.1)) (by
  rintro⟨⟨a,b⟩,_⟩ ⟨⟨c,d⟩,_⟩ h;simp only[List.cons.injEq,and_true]at h;obtain rfl:=B8 BP A0 h.1;obtain rfl:=Vz h.2;rfl) ⟨(l,bs),h1,h2,h3⟩
theorem Nn (o:Option (List (List UInt8))):Cm 40 (qe o)=true:=by
 rcases o with _|_|⟨a,l⟩<;>rfl
theorem aS {n a b:Int}:ZZ n a b=true↔a<=n/\n<=b:=by
 unfold ZZ;simp only[Qf,decide_eq_true_eq]
theorem all4 (h:CM Tryz.prog 8 [] (.bool true)):Co Tryz.prog gn K4:=Al Aw Ag (all2 h) (fun p:uZ=>names_to p.1.1 p.1.2 p.2.1 p.2.2) (fun p=>by obtain⟨⟨a,_|⟨b,c⟩⟩,_⟩:=p<;>rfl) (fun _=>Nn _)
theorem eqN (a b:Ci):au true (fh (.flat [.string,.int .i64]) (.agg (Cq a)) (.agg (Cq b)))=some (.bool (!(decide (a=b)))):=by
 obtain⟨a1,a2⟩:=a;obtain⟨b1,b2⟩:=b;show au true ((some (CK a1 b1)).bind fun r=>bif r then(some (decide (a2=b2))).bind (fun r=>bif r then some true else some false)else some false)=_;by_cases h1:a1=b1
 .subst h1;rw[AY,decide_eq_true rfl];by_cases h2:a2=b2
  .subst h2;simp[au]
  .simp[au,h2]
 .rw[AY,decide_eq_false h1];simp[au,h1]
def lU:Ci:=([70,97,108,115,101],0)
def qf:Ci:=([84,114,117,101],0)
def al (c f:List Ci):Bool:=(ZZ c.length 2 12&&decide ((f.length:Int)<=8)&&decide (c[0]?=some lU)&&decide (c[1]?=some qf))&&
 match Zq [] c with
 |some l=>(Zq l f).isSome
 |none=>false
theorem Mc {l:List Ci} {bs cs:List (List UInt8)} (h:Zq bs l=some cs):cs.length=bs.length+l.length:=by
 induction l generalizing bs with
 |nil=>cases h;rfl
 |cons p l ih=>
  unfold Zq at h;split at h
  .rw[ih h,Qm];show bs.length+1+l.length=bs.length+(l.length+1)
   omega
  .cases h
theorem sig_to (c f:List Ci) (hc:∀p∈c,p.1.length<=4000) (hf:∀p∈f,p.1.length<=4000):Cj (EK K4) 124 [.agg [Cp Cq 2 c,Cp Cq 2 f]] S0 (.bool (al c f)):=by
 refine As U ?_;focus
  refine Eh U<|Sq<|Es<|Ls 3 U<|Lo (kc U (Dj)) U<|Lv 2 U<|Bn U (fun h1=>?_) (fun h1=>?_);refine Lw U<|Tt U<|Ew U<|Se (Er U<|Ab ?_);rotate_left;refine Ls 6 U<|Bd U (fun h2=>?_) (fun h2=>?_);refine Lw U<|Tt U<|Ew U<|Se (Er U<|Ab ?_);rotate_left;refine Ls 2 U ?_;rotate_left
 .unfold al;rw[h1];rfl
 .unfold al;rw[decide_eq_false (by omega:¬((f.length:Nat):Int)<=8),Bool.and_false];rfl
 have h0:=aS.1 h1;have vE:=A6 A0 (l:=c) (i:=0) (by omega);have ow:=A6 A0 (l:=c) (i:=1) (by omega);have xM:=eqN c[0] lU;have he1:=eqN c[1] qf;focus
  refine Lh U U (kv (k:=0) U vE)<|Lv 2 U<|Lh U U (E7 (neg:=true) U Sj SP U U xM)<|Lv 2 U<|Be U (fun h3=>?_) (fun h3=>?_);refine Lw U<|Tt U<|Ew U<|Se (Er U<|Ab ?_);rotate_left;refine Ls 2 U<|Lh U U (kv (k:=1) U ow)<|Lv 2 U<|Lh U U (E7 (neg:=true) U Sj SP U U he1)<|Lw U<|Ce U (fun h4=>?_) (fun h4=>?_);refine Ew U<|Se (Er U<|Ab ?_);rotate_left;refine Sk<|Es<|Ls 2 U ?_;rotate_left
 .unfold al;rw[Qi (by omega),decide_eq_false (by intro h;exact h3 (Option.some.inj h):¬some c[0]=some lU),Bool.and_false,Bool.false_and];rfl
 .unfold al;rw[Qi (i:=1) (by omega),decide_eq_false (by intro h;exact h4 (Option.some.inj h):¬some c[1]=some qf),Bool.and_false];rfl
 have jm:(ZZ c.length 2 12&&decide ((f.length:Int)<=8)&&decide (c[0]?=some lU)&&decide (c[1]?=some qf))=true:=by
  rw[h1,decide_eq_true (by omega:((f.length:Nat):Int)<=8),Qi (i:=0) (by omega),Qi (i:=1) (by omega),h3,h4];simp
 refine Lo (kc U (WX (l:=c) (bs:=[]) hc (by omega) (Qo _))) U ?_;rcases hn:Zq [] c with _|l
 .refine Lw U<|Sq<|Ew U<|Tt U<|Ew U<|Se (Er U ?_);refine Ab ?_;unfold al;rw[jm,hn];rfl
 .have hl:=Mc hn;refine Lw U<|Sq<|Ew U<|Tf U<|Sk<|Es<|Ls 3 U<|Lo (kc U (WX (l:=f) (bs:=l) hf (by omega) (by simp at hl;omega))) U ?_;rcases kP:Zq l f with _|m
  .refine Lw U<|Ew U<|Se (Er U ?_);refine Ab ?_;unfold al;rw[jm,hn];show false=(true&&(Zq l f).isSome)
   rw[kP];rfl
  .refine Lw U<|Ew U<|Se (Er U ?_);refine Ab ?_;unfold al;rw[jm,hn];show true=(true&&(Zq l f).isSome)
   rw[kP];rfl
abbrev xi:= {p:List Ci×List Ci//(∀q∈p.1,q.1.length<=4000)/\(∀q∈p.2,q.1.length<=4000)}
noncomputable def K5:=CX K4 124 (fun p:xi=>[.agg [Cp Cq 2 p.1.1,Cp Cq 2 p.1.2]]) (fun p=> .bool (al p.1.1 p.1.2))
theorem hq_124 {c f:List Ci} (hc:∀p∈c,p.1.length<=4000) (hf:∀p∈f,p.1.length<=4000):K5 124 [.agg [Cp Cq 2 c,Cp Cq 2 f]]=some (.bool (al c f)):=
 Aj (f:=124) (enc:=fun p:xi=>[.agg [Cp Cq 2 p.1.1,Cp Cq 2 p.1.2]]) (res:=fun p=> .bool (al p.1.1 p.1.2)) (by
  rintro⟨p,_⟩ ⟨q,_⟩ h;obtain rfl:=Kz h;rfl) ⟨(c,f),hc,hf⟩
theorem all5 (h:CM Tryz.prog 8 [] (.bool true)):Co Tryz.prog gn K5:=Al Aw Ag (all4 h) (fun p:xi=>sig_to p.1.1 p.1.2 p.2.1 p.2.2) (fun _=>rfl) (fun _=>rfl)
def Met (st:St) (cs:List (List UInt8)):Prop:=st.heap.u 2=some (.J [.H_ 1] 156 false)/\st.heap.u 1=some (.O (eM 0 cs) cs.length)/\2<st.a
theorem fits_run {st:St} {cs:List (List UInt8)} (hm:Met st cs) (p:Ci) (hw:p.1.length<=4000) {R:AV->St->Prop}
 (hR:∀Zy,YS st Zy (fun c=>c=1)->(sI cs p=true->Met Zy (cs++[p.1]))->(1<st.b->Zy.c≠ [])->R (.bool (sI cs p)) Zy):CD (EK K5) 177 [.agg [.J p.1,.int .i64 p.2],.Z 2 0] st R:=by
 obtain⟨ru,ff,hn⟩:=hm;refine CD.gen (fn:=Tryz.f177) U U U U U U ?_;have ha0:(st.u.A (.J [.J p.1,.int .i64 p.2] 137 false)).heap.u st.u.a=some (.J [.J p.1,.int .i64 p.2] 137 false):=A1;have xD:(st.u.A (.J [.J p.1,.int .i64 p.2] 137 false)).heap.u 1=some (.O (eM 0 cs) cs.length):=(Au (by show 1<st.a;omega)).trans ff;have ha2:(st.u.A (.J [.J p.1,.int .i64 p.2] 137 false)).heap.u 2=some (.J [.H_ 1] 156 false):=(Au (by show 2<st.a;omega)).trans ru;have hl:=PG (w:=p.1) xD;obtain⟨ob,eE,uN⟩:=Xx (w:=p.1) xD;have ha3:((st.u.A (.J [.J p.1,.int .i64 p.2] 137 false)).B 1 (some ob)).heap.u st.u.a=some (.J [.J p.1,.int .i64 p.2] 137 false):=by
  rw[AF,if_neg (by show st.a≠1;omega)];exact ha0
 have CU:((st.u.A (.J [.J p.1,.int .i64 p.2] 137 false)).B 1 (some ob)).c≠ []:=Gr (by show 1<st.a;omega);have xO:YS st (st.M ((st.u.A (.J [.J p.1,.int .i64 p.2] 137 false)).B 1 (some ob))) (fun c=>c=1):=
  (YS.trans (s:=st.u) YS.u (YS.B (b:=1) (o:=some ob)) (own:=fun c=>c=1) (o1:=fun c=>c=1) (fun _ h=>h) (fun _ h=> .inl h) (Qj _)).A
 have hmet:cs.contains p.1=false->Met (st.M ((st.u.A (.J [.J p.1,.int .i64 p.2] 137 false)).B 1 (some ob))) (cs++[p.1]):=fun h=>⟨by
  show((st.u.A (.J [.J p.1,.int .i64 p.2] 137 false)).B 1 (some ob)).heap.u 2=_;rw[AF,if_neg (by decide)];exact ha2,by
  show((st.u.A (.J [.J p.1,.int .i64 p.2] 137 false)).B 1 (some ob)).heap.u 1=_;rw[AF,if_pos rfl,uN h],by show 2<st.a+1;omega⟩
 have dS:∀b,b=sI cs p->R (.bool b) (st.M ((st.u.A (.J [.J p.1,.int .i64 p.2] 137 false)).B 1 (some ob))):=fun b h=>by
  rw[h];exact hR _ xO (fun h=>hmet (by
   unfold sI at h;cases hc:cs.contains p.1 with
   |false=>rfl
   |true=>rw[hc]at h;cases h)) fun h=>RD (Dn (by show 1<st.a;omega)) h
 focus
  refine Es<|Lo (ZU.box U U U) U<|Lw U<|Es<|Lo (kl U ha2 U) U<|Lv 1 U<|Lo (kl U ha0 U) U<|Lo (GK U u_156 z_4 xe U U hl) U<|Lw U<|Es<|Lo (kl U ha2 U) U<|Lv 1 U<|Lo (kl U ha0 U) U<|Ln (AT (.inl U) u_156 xe U U U eE) U<|Ld<|Es<|Lv 3 U<|Bn U (fun h1=>?_) (fun h1=>?_);refine Lv 1 U<|Lg U U (kl U ha3 U)<|Lg U U (kc U (hit_178 (by omega)))<|Lv 2 U<|Bb U (fun g2=>?_) (fun g2=>?_);refine Lv 1 U<|Lg U U (kl U ha3 U)<|Lg U U (kc U (D1))<|Lw U ?_;rotate_left;refine Lw U ?_;rotate_left;refine Lw U ?_;rotate_left
 .refine Se ?_;refine⟨.inl U,_,U,_,Aa U U,_,FN U CU,dS _ ?_⟩;unfold sI;rw[h1,g2];rfl
 .refine Se ?_;refine⟨.inl U,_,U,_,Aa U U,_,FN U CU,dS _ ?_⟩;unfold sI;rw[h1,g2];rfl
 .refine Se ?_;refine⟨.inl U,_,U,_,Aa U U,_,FN U CU,dS _ ?_⟩;unfold sI;rw[h1];rfl
theorem PC {st:St} {cs:List (List UInt8)} (hm:Met st cs) (l:List Ci) (hl:∀p∈l,p.1.length<=4000) (hn:l.length<=4000) {R:AV->St->Prop}
 (hR:∀Zy,YS st Zy (fun c=>c=1)->(∀ds,Zq cs l=some ds->Met Zy ds)->R (.bool (Zq cs l).isSome) Zy):CD (EK K5) 180 [Cp Cq 2 l,.G' (.func 177) [] [.Z 2 0]] st R:=by
 refine CD.gen (fn:=Tryz.f180) U U U U U U<|Ew U<|Sq<|Ew U<|Sb<|Ai (fun x:Nat×List (List UInt8)×St=>([(9,.int .i64 (x.1:Nat)),(8,.int .i64 (l.length:Nat)),(7,Cp Cq 2 l),(1,.G' (.func 177) [] [.Z 2 0])],x.2.2)) (fun x=>l.length-x.1)
  (fun x=>x.1<=l.length/\Met x.2.2 x.2.1/\Zq cs l=Zq x.2.1 (l.drop x.1)/\YS st.u x.2.2 (fun c=>c=1)/\(x.1=0/\x.2.1=cs\/x.2.2.c≠ [])) (0,cs,st.u) ⟨Qo _,hm,rfl,YS.I,.inl ⟨rfl,rfl⟩⟩ rfl (Ac (by trivial)) ?_
 rintro⟨i,ds,s1⟩ ⟨hi,hmt,hnv,xO,Z9⟩;dsimp only at hi hmt hnv xO Z9|-;by_cases h:i<l.length
 .have hp:=A6 A0 h;have ha0:(s1.A (.J [.J [],.int .i64 0] 137 false)).heap.u s1.a=some (.J [.J [],.int .i64 0] 137 false):=A1;have xD:((s1.A (.J [.J [],.int .i64 0] 137 false)).B s1.a (some (.J [.J l[i].1,.int .i64 l[i].2] 137 false))).heap.u s1.a=some (.J [.J l[i].1,.int .i64 l[i].2] 137 false):=by rw[AF,if_pos rfl]
  have hch1:YS st.u ((s1.A (.J [.J [],.int .i64 0] 137 false)).B s1.a (some (.J [.J l[i].1,.int .i64 l[i].2] 137 false))) (fun c=>c=1):=
   (xO.trans YS.u (o2:=fun _=>False) (own:=fun c=>c=1) (fun _ h=>h) (fun _ h=>h.elim) (Qj _)).trans YS.B (own:=fun c=>c=1) (fun _ h=>h) (fun c h=> .inr (by rw[h];exact xO.a)) (Qj _)
  have hmt1:Met ((s1.A (.J [.J [],.int .i64 0] 137 false)).B s1.a (some (.J [.J l[i].1,.int .i64 l[i].2] 137 false))) ds:=by
   obtain⟨h2,h1,hn⟩:=hmt;refine⟨?_,?_,?_⟩
   .rw[AF,if_neg (by omega),Au hn];exact h2
   .rw[AF,if_neg (by omega),Au (by omega)];exact h1
   .show 2<s1.a+1;omega
  focus
   refine Ew U<|Sq<|Cd U (fun h1=>?_) (fun h1=>?_);refine Sk<|Sq<|Sb<|Es<|Lq (kv U hp) U<|Lv 1 U<|Lo (kz U) U<|Ln (kw U ha0 U) U<|Ld<|Es<|qm U<|Lo (kL U xD U) U ?_;rotate_left;omega
  refine BN U U U U U U U U U (fits_run hmt1 l[i] (hl _ (Ql h)) ?_);intro s2 qA uS hlg2;have hch2:YS st.u s2 (fun c=>c=1):=hch1.trans qA (own:=fun c=>c=1) (fun _ h=>h) (fun _ h=> .inl h) (Qj _);focus
   refine Lw U<|Cn U (fun h2=>?_) (fun h2=>?_);refine Ew U ?_;rotate_left;refine Sk<|Sr<|Lq (ka (b:=1) U (by omega)) U<|Lw U ?_;rotate_left
  .refine Se ?_;have hr:Zq cs l=none:=by
    rw[hnv,List.drop_eq_getElem_cons h];show(if sI ds l[i]then _ else none)=none;rw[h2];rfl
   have cn:∀Zy,YS st Zy (fun c=>c=1)->R (.bool false) Zy:=fun Zy hc=>by
    have:=hR Zy hc (fun ds hd=>by rw[hr]at hd;cases hd);rw[hr]at this;exact this
   exact⟨.inl U,_,rfl,_,Aa U U,AQ (R:=R) U (fun _ _=>rfl) (fun _=>rfl) (fun _=>cn st YS.I) fun _=>cn _ hch2.A⟩
  .refine⟨(i+1,ds++[l[i].1],s2),⟨h,uS h2,?_,hch2,.inr (hlg2 ?_)⟩,by show l.length-(i+1)<l.length-i;omega,U,U,Ac (by trivial)⟩
   .rw[hnv,List.drop_eq_getElem_cons h];show(if sI ds l[i]then _ else none)=_;rw[h2];rfl
   .have:st.u.b=st.a:=rfl;rw[hch1.b,this];exact Nat.lt_of_succ_lt hm.2.2
 .focus
   refine Ew U<|Sq<|Cd U (fun h1=>?_) (fun h1=>?_);omega;refine Sx<|Ax U<|Ew U ?_;rotate_left
  obtain rfl:i=l.length:=by omega
  rw[List.drop_length]at hnv;have hr:Zq cs l=some ds:=hnv;refine Se ?_;have cn:∀Zy,YS st Zy (fun c=>c=1)->Met Zy ds->R (.bool true) Zy:=fun Zy hc hm=>by
   have:=hR Zy hc (fun ds hd=>by rw[hr]at hd;cases hd;exact hm);rw[hr]at this;exact this
  refine⟨.inl U,_,rfl,_,Aa U U,AQ (R:=R) U (fun _ _=>rfl) (fun _=>rfl) (fun h=>cn st YS.I ?_) fun _=>cn _ xO.A hmt⟩;rcases Z9 with⟨_,rfl⟩|Z9
  .exact hm
  .exact absurd h Z9
theorem RA (c f:List Ci) (hc:∀p∈c,p.1.length<=4000) (hf:∀p∈f,p.1.length<=4000):Cj (EK K5) 115 [.agg [Cp Cq 2 c,Cp Cq 2 f]] S0 (.int .i64 (if al c f then 0 else 2)):=by
 refine As U ?_;have bG:∀b:Bool,(ZZ c.length 2 12&&decide ((f.length:Int)<=8)&&decide (c[0]?=some lU)&&decide (c[1]?=some qf))=false->al c f=false:=fun b h=>by unfold al;rw[h];rfl
 focus
  refine Eh U<|Es<|Lo (Gh 2 U u_156 U) U<|Lx U<|Ew U<|Sq<|Es<|Ls 3 U<|Lo (kc U (D1)) U<|Lv 2 U<|Lb U (fun g1=>?_) (fun g1=>?_);have h1:=sv g1;iterate 4 refine Lk U g1 ?_
  refine Lq (oT U g1 U) U<|Lw U<|Tt U<|Ew U<|Se (Er U ?_);rotate_left;have h1:=sw g1;refine Lh U g1 (kq U)<|Lg U g1 (kh U) ?_;iterate 2 refine Lh U g1 (kq U) ?_
  refine Lq (oF U g1 U) U<|qm U<|Lb U (fun g2=>?_) (fun g2=>?_);have h2:=dT g2;iterate 5 refine Lk U g2 ?_
  refine Lq (oT U g2 U) U<|Lw U<|Tt U<|Ew U<|Se (Er U ?_);rotate_left;have h2:=dF g2;refine Lh U g2 (kq U)<|Lg U g2 (kh U)<|Lh U g2 (kq U) ?_;rotate_left
 .rw[bG true (by rw[h1];rfl)];rfl
 .rw[bG true (by rw[decide_eq_false (by omega:¬((f.length:Nat):Int)<=8),Bool.and_false];rfl)];rfl
 have h0:=aS.1 h1;have vE:=A6 A0 (l:=c) (i:=0) (by omega);have ow:=A6 A0 (l:=c) (i:=1) (by omega);have xM:=eqN c[0] lU;have he1:=eqN c[1] qf;have jm:(ZZ c.length 2 12&&decide ((f.length:Int)<=8))=true:=by
  rw[h1,decide_eq_true (by omega:((f.length:Nat):Int)<=8)];rfl
 have nolog:∀ {s s1:St} {own:Nat->Prop},YS s s1 own->s.b=0->s.c=[]->s1.b=0/\s1.c=[]:=fun {s s1 own} hc hb hl=>⟨hc.b.trans hb,List.eq_nil_iff_forall_not_mem.2 fun x hx=>by
  rcases hc.d x hx with h|⟨h,_⟩
  .rw[hl]at h;cases h
  .rw[hb]at h;omega⟩
 refine Ge U U U U g2<|kf U (PC (cs:=[]) ⟨U,U,Nat.lt_succ_self 2⟩ c hc (by omega) ?_);intro s1 uL pr;have kA:s1.heap.u 0=some (.J [Cp Cq 2 c,Cp Cq 2 f] 40 false):=(uL.heap 0 (Nat.succ_pos 2) (by decide)).trans (AD 0);obtain⟨oU,nI⟩:=nolog uL rfl rfl;have xI:3<=s1.a:=uL.a;rcases hn:Zq [] c with _|ds
 .refine Lh U g2 (kq U)<|Lq (oF U g2 U) U<|Lw U<|Tt U<|Ew U<|Se ⟨.inl U,U,nI,oU,_,_,_,(Aa U U),U,U,?_⟩;try refine Se ⟨.inl rfl,rfl,nI,oU,_,_,_,(Aa rfl rfl),rfl,rfl,?_⟩
  have:al c f=false:=by unfold al;rw[hn,Bool.and_false]
  rw[this];rfl
 .have hlen:=Mc hn;refine Lh U g2 (kq U)<|Lq (oF U g2 U) U<|Lv 2 U<|Lg U U (kl U kA U)<|Lv 1 U<|Ge U U U U U<|kf U (PC (pr ds hn) f hf (by omega) ?_);intro s2 qA uS;have ff:s2.heap.u 0=some (.J [Cp Cq 2 c,Cp Cq 2 f] 40 false):=(qA.heap 0 (by omega) (by decide)).trans kA;obtain⟨jA,mf⟩:=nolog qA oU nI;rcases kP:Zq ds f with _|es
  .refine Lw U<|Tt U<|Ew U<|Se ⟨.inl U,U,mf,jA,_,_,_,(Aa U U),U,U,?_⟩;try refine Se ⟨.inl rfl,rfl,mf,jA,_,_,_,(Aa rfl rfl),rfl,rfl,?_⟩
   have:al c f=false:=by
    unfold al;rw[hn];show(_&&(Zq ds f).isSome)=false;rw[kP];simp
   rw[this];rfl
  .focus
    refine Lw U<|Tf U<|Sk<|Sq<|Es<|Lv 1 U<|Lo (kl U ff U) U<|Lq (kv (k:=0) U vE) U<|Lv 2 U<|Lq (E7 (neg:=true) U Sj SP U U xM) U<|qm U<|Lb U (fun g3=>?_) (fun g3=>?_);have h3:=nT g3;iterate 6 refine Lk U g3 ?_
    refine Lq (oT U g3 U) U<|Ld<|Tt U<|Ew U<|Se ⟨.inl U,U,mf,jA,_,_,_,(Aa U U),U,U,?_⟩;rotate_left;have h3:=nF g3;refine Lh U g3 (kq U)<|Lg U g3 (kl U ff U)<|Lh U g3 (kv (k:=1) U ow) ?_;iterate 2 refine Lh U g3 (kq U) ?_
    refine Lh U g3 (E7 (neg:=true) U Sj SP U U he1)<|Lq (oF U g3 U) U<|Ld<|Ec U (fun g4=>?_) (fun g4=>?_);have h4:=nT g4;refine Ew U<|Se ⟨.inl U,U,mf,jA,_,_,_,(Aa U U),U,U,?_⟩;rotate_left;have h4:=nF g4;refine Sk<|Ew U<|Se ⟨.inl U,U,mf,jA,_,_,_,(Aa U U),U,U,?_⟩;rotate_left
   .try refine Se ⟨.inl rfl,rfl,mf,jA,_,_,_,(Aa rfl rfl),rfl,rfl,?_⟩
    rw[bG true (by rw[Qi (i:=0) (by omega),decide_eq_false (by intro h;exact h3 (Option.some.inj h):¬some c[0]=some lU),Bool.and_false,Bool.false_and])];rfl
   .try refine Se ⟨.inl rfl,rfl,mf,jA,_,_,_,(Aa rfl rfl),rfl,rfl,?_⟩
    rw[bG true (by rw[Qi (i:=1) (by omega),decide_eq_false (by intro h;exact h4 (Option.some.inj h):¬some c[1]=some qf),Bool.and_false])];rfl
   .try refine Se ⟨.inl rfl,rfl,mf,jA,_,_,_,(Aa rfl rfl),rfl,rfl,?_⟩
    have:al c f=true:=by
     unfold al;rw[jm,Qi (i:=0) (by omega),Qi (i:=1) (by omega),h3,h4,hn];show(_&&(Zq ds f).isSome)=true;rw[kP];simp
    rw[this];rfl
noncomputable def K6:=CX K5 115 (fun p:xi=>[.agg [Cp Cq 2 p.1.1,Cp Cq 2 p.1.2]]) (fun p=> .int .i64 (if al p.1.1 p.1.2 then 0 else 2))
theorem Pq {c f:List Ci} (hc:∀p∈c,p.1.length<=4000) (hf:∀p∈f,p.1.length<=4000):K6 115 [.agg [Cp Cq 2 c,Cp Cq 2 f]]=some (.int .i64 (if al c f then 0 else 2)):=
 Aj (f:=115) (enc:=fun p:xi=>[.agg [Cp Cq 2 p.1.1,Cp Cq 2 p.1.2]]) (res:=fun p=> .int .i64 (if al p.1.1 p.1.2 then 0 else 2)) (by
  rintro⟨p,_⟩ ⟨q,_⟩ h;obtain rfl:=Kz h;rfl) ⟨(c,f),hc,hf⟩
theorem all6 (h:CM Tryz.prog 8 [] (.bool true)):Co Tryz.prog gn K6:=Al Aw Ag (all5 h) (fun p:xi=>RA p.1.1 p.1.2 p.2.1 p.2.2) (fun _=>rfl) (fun _=>rfl)
inductive Cc where
 |mk (op n:Int) (kids:List Cc)
def Cc.op:Cc->Int| .mk o _ _=>o
def Cc.n:Cc->Int| .mk _ n _=>n
def Cc.u:Cc->List Cc| .mk _ _ k=>k
mutual
def Cf:Cc->List AV
 | .mk o n ks=>[.int .i64 o,.int .i64 n,.Ck (sJ ks) ks.length 3 true]
def sJ:List Cc->List AV
 | []=>[]
 |t::ts=>Cf t++sJ ts
end
mutual
def CL:Cc->Nat
 | .mk _ _ ks=>Yl ks+1
def Yl:List Cc->Nat
 | []=>0
 |t::ts=>max (CL t) (Yl ts)
end
mutual
def YF:Cc->Int->Int->Int
 | .mk _ _ ks,l,d=>if l<1\/d<1 then-1 else Z3 ks (l-1) (d-1)
def Z3:List Cc->Int->Int->Int
 | [],l,_=>l
 |t::ts,l,d=>if 0<=l then Z3 ts (YF t l d) d else l
end
theorem Kv:∀l:List Cc,sJ l=l.flatMap Cf
 | []=>rfl
 |t::ts=>by rw[List.flatMap_cons,<-Kv ts];rfl
def Cs (l:List Cc):AV:=Cp Cf 3 l
theorem Ak (t:Cc):Cf t=[.int .i64 t.op,.int .i64 t.n,Cs t.u]:=by
 obtain⟨o,n,ks⟩:=t;show [_,_,AV.Ck (sJ ks) _ _ _]=_;rw[Kv];rfl
theorem Kw (t:Cc):(Cf t).length=2+1:=by rw[Ak];rfl
theorem Bg:∀ {l:List Cc} {t:Cc},t∈l->CL t<=Yl l
 |u::l,t,h=>by
  show CL t<=max (CL u) (Yl l);rcases Qk.1 h with rfl|h
  .exact Nat.le_max_left _ _
  .exact Nat.le_trans (Bg h) (Nat.le_max_right _ _)
theorem Fy (t:Cc):CL t=Yl t.u+1:=by cases t;rfl
inductive YN:Cc->Prop
 |mk {o n:Int} {ks:List Cc}:ks.length<=4000->(∀t∈ks,YN t)->YN (.mk o n ks)
mutual
theorem RW:∀(t:Cc) (l d:Int),-1<=l->-1<=YF t l d/\YF t l d<=max l (-1)
 | .mk _ _ ks,l,d,h=>by
  unfold YF;split
  .omega
  .have:=Jt ks (l-1) (d-1) (by omega);omega
theorem Jt:∀(ts:List Cc) (l d:Int),-1<=l->-1<=Z3 ts l d/\Z3 ts l d<=l
 | [],l,d,h=>by
  unfold Z3;omega
 |t::ts,l,d,h=>by
  unfold Z3;split
  .have h1:=RW t l d h;have h2:=Jt ts (YF t l d) d h1.1;omega
  .omega
end
end Go.Proofs.YtfhimfcbphepeaaGreatDoor.Ty
