/- Types: tokens. -/
import Derived.Test.YtfhimfcbphepeaaGreatDoorAmH
import Derived.Test.YtfhimfcbphepeaaGreatDoorProg
import Derived.KernelRfl
set_option linter.unusedSectionVars false
set_option linter.unusedVariables false
set_option linter.unusedSimpArgs false
open Go Am
namespace Go.Proofs.YtfhimfcbphepeaaGreatDoor.Ty
def frzT (f:FuncId):Nat:=bif Nat.beq f 40 then 2 else bif Nat.beq f 36 then 2 else bif Nat.beq f 41 then 2 else bif Nat.beq f 107 then 2 else bif Nat.beq f 34 then 3 else bif Nat.beq f 88 then 3 else 1
noncomputable abbrev EK (K:FuncId->List AV->Option AV):Env:=kV Tryz.prog 1200 1200 frzT K (fun _=>none)
end Go.Proofs.YtfhimfcbphepeaaGreatDoor.Ty
open Go Am
namespace Go.Proofs.YtfhimfcbphepeaaGreatDoor
noncomputable def Zy:fZ:= {ty:=[(3,some (.int .i64),some 1,some false,some false),(9,some .string,some 1,some false,some false),(26,none,some 3,some true,some false),(24,some (.slice 26),some 1,some false,some false),(133,none,some 4,some true,some false),(22,some (.slice 54),some 1,some false,some false),(52,some (.slice 24),some 1,some false,some false),(96,none,some 4,some true,some false),(67,some (.slice 9),some 1,some false,some false),(23,some (.int .i64),some 1,some false,some false),(54,none,some 3,some true,some false),(88,some (.slice 133),some 1,some false,some false),(5,some (.int .u8),some 1,some false,some false),(4,some .bool,some 1,some false,some false),(207,some (.slice 5),some 1,some false,some false),(31,some (.int .i64),some 1,some false,some false),(82,some (.map 9 3),some 1,some false,some false),(131,some (.int .i64),some 1,some false,some false),(94,some (.slice 96),some 1,some false,some false),(29,none,some 1,some false,some false),(79,some (.pointer 165),some 1,some false,some false),(206,some (.pointer 209),some 1,some false,some false),(163,some (.slice 79),some 1,some false,some false),(83,some (.slice 3),some 1,some false,some false),(111,none,some 3,some true,some false),(151,none,some 1,some true,some false),(209,none,some 2,some true,some false),(106,none,some 1,some false,some false),(156,some (.map 9 4),some 1,some false,some false),(165,none,some 2,some true,some false),(20,none,some 1,some false,some true),(93,none,some 3,some true,some false),(108,none,some 1,some false,some false),(154,none,some 1,some false,some false),(160,none,some 1,some false,some false),(162,none,some 2,some true,some false),(298,some .unsafePointer,some 1,some false,some false),(85,none,some 4,some true,some false),(100,none,some 4,some true,some false)],fl:=[(1664,some (0,1,false)),(1665,some (1,1,false)),(1666,some (2,1,false)),(3456,some (0,1,false)),(3457,some (1,1,false)),(3458,some (2,1,false)),(5440,some (0,1,false)),(5441,some (1,1,false)),(5442,some (2,1,false)),(5443,some (3,1,false)),(5952,some (0,1,false)),(5953,some (1,1,false)),(5954,some (2,1,false)),(6144,some (0,1,false)),(6145,some (1,1,false)),(6147,some (3,1,false)),(6400,some (0,1,false)),(6402,some (3,1,false)),(7104,some (0,1,false)),(8512,some (0,1,false)),(8513,some (1,1,false)),(8514,some (2,1,false)),(8515,some (3,1,false)),(9664,some (0,1,false)),(10368,some (0,1,false)),(10369,some (1,1,false)),(10560,some (0,1,false)),(10561,some (1,1,false)),(13376,some (0,1,false)),(13377,some (1,1,false))],ze:=[(3,some (.int .i64 0)),(4,some (.bool false)),(5,some (.int .u8 0)),(9,some (.str [])),(26,some (.agg [.int .i64 0,.int .i64 0,.Ca])),(29,some .WE),(31,some (.int .i64 0)),(54,some (.agg [.str [],.int .i64 0,.Ca])),(67,some .Ca),(79,some .CU),(88,some .Ca),(96,some (.agg [.int .i64 0,.str [],.int .i64 0,.Ca])),(133,some (.agg [.int .i64 0,.str [],.int .i64 0,.int .i64 0])),(151,some (.agg [.int .i64 0])),(209,some (.agg [.CU,.Ca]))],pl:=[(26,some ([.int .i64 0,.int .i64 0,.Ca],nth [(0,1),(1,1),(2,1)])),(85,some ([.WI,.Ca,.WI,.bool false],nth [(0,1),(1,1),(2,1),(3,1)])),(93,some ([.Ca,.int .i64 0,.bool false],nth [(0,1),(1,1),(2,1)])),(96,some ([.int .i64 0,.str [],.int .i64 0,.Ca],nth [(0,1),(1,1),(2,1),(3,1)])),(100,some ([.Ca,.Ca,.Ca,.bool false],nth [(0,1),(1,2),(3,1)])),(111,some ([.Ca,.Ca,.Ca],nth [(0,1),(1,2)])),(133,some ([.int .i64 0,.str [],.int .i64 0,.int .i64 0],nth [(0,1),(1,1),(2,1),(3,1)])),(151,some ([.int .i64 0],nth [(0,1)])),(162,some ([.Ca,.int .i64 0],nth [(0,1),(1,1)])),(165,some ([.str [],.Ca],nth [(0,1),(1,1)]))],fn:=[(3,some Tryz.f3),(5,some Tryz.f5),(6,some Tryz.f6),(7,some Tryz.f7),(9,some Tryz.f9),(10,some Tryz.f10),(11,some Tryz.f11),(12,some Tryz.f12),(13,some Tryz.f13),(18,some Tryz.f18),(29,some Tryz.f29),(30,some Tryz.f30),(31,some Tryz.f31),(32,some Tryz.f32),(33,some Tryz.f33),(34,some Tryz.f34),(35,some Tryz.f35),(36,some Tryz.f36),(37,some Tryz.f37),(38,some Tryz.f38),(39,some Tryz.f39),(40,some Tryz.f40),(41,some Tryz.f41),(42,some Tryz.f42),(43,some Tryz.f43),(44,some Tryz.f44),(45,some Tryz.f45),(46,some Tryz.f46),(47,some Tryz.f47),(48,some Tryz.f48),(49,some Tryz.f49),(50,some Tryz.f50),(67,some Tryz.f67),(76,some Tryz.f76),(78,some Tryz.f78),(79,some Tryz.f79),(80,some Tryz.f80),(81,some Tryz.f81),(82,some Tryz.f82),(83,some Tryz.f83),(84,some Tryz.f84),(85,some Tryz.f85),(86,some Tryz.f86),(87,some Tryz.f87),(88,some Tryz.f88),(89,some Tryz.f89),(90,some Tryz.f90),(91,some Tryz.f91),(92,some Tryz.f92),(93,some Tryz.f93),(94,some Tryz.f94),(95,some Tryz.f95),(96,some Tryz.f96),(97,some Tryz.f97),(98,some Tryz.f98),(99,some Tryz.f99),(100,some Tryz.f100),(101,some Tryz.f101),(102,some Tryz.f102),(103,some Tryz.f103),(104,some Tryz.f104),(105,some Tryz.f105),(106,some Tryz.f106),(107,some Tryz.f107),(108,some Tryz.f108),(109,some Tryz.f109),(110,some Tryz.f110),(111,some Tryz.f111),(112,some Tryz.f112),(113,some Tryz.f113),(114,some Tryz.f114),(127,some Tryz.f127),(133,some Tryz.f133),(134,some Tryz.f134),(135,some Tryz.f135),(136,some Tryz.f136),(137,some Tryz.f137),(139,some Tryz.f139),(141,some Tryz.f141),(142,some Tryz.f142),(143,some Tryz.f143),(150,some Tryz.f150),(151,some Tryz.f151),(152,some Tryz.f152),(153,some Tryz.f153),(154,some Tryz.f154),(155,some Tryz.f155),(156,some Tryz.f156),(157,some Tryz.f157),(158,some Tryz.f158),(159,some Tryz.f159),(160,some Tryz.f160),(161,some Tryz.f161),(162,some Tryz.f162),(163,some Tryz.f163),(164,some Tryz.f164),(165,some Tryz.f165),(166,some Tryz.f166),(167,some Tryz.f167),(168,some Tryz.f168),(169,some Tryz.f169),(170,some Tryz.f170),(171,some Tryz.f171),(172,some Tryz.f172),(173,some Tryz.f173),(174,some Tryz.f174),(175,some Tryz.f175),(176,some Tryz.f176),(208,some Tryz.f208),(209,some Tryz.f209),(210,some Tryz.f210),(211,some Tryz.f211),(212,some Tryz.f212),(213,some Tryz.f213),(214,some Tryz.f214),(218,some Tryz.f218),(219,some Tryz.f219),(227,some Tryz.f227),(228,some Tryz.f228),(229,some Tryz.f229),(230,some Tryz.f230),(254,some Tryz.f254),(255,some Tryz.f255),(258,some Tryz.f258)],nb:=351,ex:=[0,1,216,257,283,286,302,327,328,329,330,331,332,333,334,335,336,337,338,339,340,341,342,343,344,345,346,347,348,349]}
class Tb (E:Env):Prop where
 ok:YC E Zy
instance {K:FuncId->List AV->Option AV}:Tb (Ty.EK K):=⟨⟨by kernel_rfl,by kernel_rfl,by kernel_rfl,by kernel_rfl,by kernel_rfl,by kernel_rfl⟩⟩
section
variable {E : Env} [Tb E]
theorem o9:CN E 3=some (.int .i64):=(Tb.ok.t rfl).1 _ rfl
theorem zV:Am.sizeOf E 3=some 1:=(Tb.ok.t rfl).2.1
theorem ag_3:Am.isAgg E 3=some false:=(Tb.ok.t rfl).2.2.1
theorem z_3:Am.zeroOf E 3=some (.int .i64 0):=Tb.ok.z rfl
theorem sz_4:Am.sizeOf E 4=some 1:=(Tb.ok.t rfl).2.1
theorem ag_4:Am.isAgg E 4=some false:=(Tb.ok.t rfl).2.2.1
theorem u_5:CN E 5=some (.int .u8):=(Tb.ok.t rfl).1 _ rfl
theorem vX:Am.sizeOf E 5=some 1:=(Tb.ok.t rfl).2.1
theorem ag_5:Am.isAgg E 5=some false:=(Tb.ok.t rfl).2.2.1
theorem z_5:Am.zeroOf E 5=some (.int .u8 0):=Tb.ok.z rfl
theorem CT:CN E 9=some .string:=(Tb.ok.t rfl).1 _ rfl
theorem HT:Am.sizeOf E 9=some 1:=(Tb.ok.t rfl).2.1
theorem oi:Am.isAgg E 9=some false:=(Tb.ok.t rfl).2.2.1
theorem pU:Am.zeroOf E 9=some (.str []):=Tb.ok.z rfl
theorem if_20:Ye E 20=some true:=(Tb.ok.t rfl).2.2.2
theorem sz_22:Am.sizeOf E 22=some 1:=(Tb.ok.t rfl).2.1
theorem ag_22:Am.isAgg E 22=some false:=(Tb.ok.t rfl).2.2.1
theorem zW:CN E 24=some (.slice 26):=(Tb.ok.t rfl).1 _ rfl
theorem JU:Am.sizeOf E 24=some 1:=(Tb.ok.t rfl).2.1
theorem rL:Am.isAgg E 24=some false:=(Tb.ok.t rfl).2.2.1
theorem Dj:Am.sizeOf E 26=some 3:=(Tb.ok.t rfl).2.1
theorem EI:Am.isAgg E 26=some true:=(Tb.ok.t rfl).2.2.1
theorem zX:Am.zeroOf E 26=some (.agg [.int .i64 0,.int .i64 0,.Ca]):=Tb.ok.z rfl
theorem rM:Am.sizeOf E 31=some 1:=(Tb.ok.t rfl).2.1
theorem rN:Am.isAgg E 31=some false:=(Tb.ok.t rfl).2.2.1
theorem zY:CN E 52=some (.slice 24):=(Tb.ok.t rfl).1 _ rfl
theorem MV:CN E 67=some (.slice 9):=(Tb.ok.t rfl).1 _ rfl
theorem sz_67:Am.sizeOf E 67=some 1:=(Tb.ok.t rfl).2.1
theorem rO:Am.sizeOf E 79=some 1:=(Tb.ok.t rfl).2.1
theorem zZ:Am.zeroOf E 79=some .CU:=Tb.ok.z rfl
theorem p8:CN E 82=some (.map 9 3):=(Tb.ok.t rfl).1 _ rfl
theorem u_83:CN E 83=some (.slice 3):=(Tb.ok.t rfl).1 _ rfl
theorem sz_83:Am.sizeOf E 83=some 1:=(Tb.ok.t rfl).2.1
theorem Aaa:CN E 88=some (.slice 133):=(Tb.ok.t rfl).1 _ rfl
theorem rQ:Am.sizeOf E 88=some 1:=(Tb.ok.t rfl).2.1
theorem ag_88:Am.isAgg E 88=some false:=(Tb.ok.t rfl).2.2.1
theorem vY:CN E 94=some (.slice 96):=(Tb.ok.t rfl).1 _ rfl
theorem EH:Am.sizeOf E 96=some 4:=(Tb.ok.t rfl).2.1
theorem Io:Am.isAgg E 96=some true:=(Tb.ok.t rfl).2.2.1
theorem vZ:Am.zeroOf E 96=some (.agg [.int .i64 0,.str [],.int .i64 0,.Ca]):=Tb.ok.z rfl
theorem wa:Am.sizeOf E 111=some 3:=(Tb.ok.t rfl).2.1
theorem wb:Am.isAgg E 111=some true:=(Tb.ok.t rfl).2.2.1
theorem Bw:Am.sizeOf E 133=some 4:=(Tb.ok.t rfl).2.1
theorem BV:Am.isAgg E 133=some true:=(Tb.ok.t rfl).2.2.1
theorem rR:Am.zeroOf E 133=some (.agg [.int .i64 0,.str [],.int .i64 0,.int .i64 0]):=Tb.ok.z rfl
theorem rS:CN E 156=some (.map 9 4):=(Tb.ok.t rfl).1 _ rfl
theorem rT:CN E 163=some (.slice 79):=(Tb.ok.t rfl).1 _ rfl
theorem Ta:CN E 206=some (.pointer 209):=(Tb.ok.t rfl).1 _ rfl
theorem LO:CN E 207=some (.slice 5):=(Tb.ok.t rfl).1 _ rfl
theorem wc:Am.sizeOf E 207=some 1:=(Tb.ok.t rfl).2.1
theorem ag_207:Am.isAgg E 207=some false:=(Tb.ok.t rfl).2.2.1
theorem MZ:Am.sizeOf E 209=some 2:=(Tb.ok.t rfl).2.1
theorem u_298:CN E 298=some .unsafePointer:=(Tb.ok.t rfl).1 _ rfl
end
namespace Ty
section
variable {K : FuncId -> List AV -> Option AV}
theorem by_3:bytesOf (EK K) 3=some 8:=by kernel_rfl
theorem by_5:bytesOf (EK K) 5=some 1:=by kernel_rfl
theorem Aab:isByte (EK K) 5=true:=by kernel_rfl
theorem tf:bytesOf (EK K) 9=some 16:=by kernel_rfl
theorem qE:bQ (EK K) 9=some (.one .string):=by kernel_rfl
theorem by_26:bytesOf (EK K) 26=some 40:=by kernel_rfl
theorem by_79:bytesOf (EK K) 79=some 8:=by kernel_rfl
theorem by_96:bytesOf (EK K) 96=some 56:=by kernel_rfl
theorem we:bytesOf (EK K) 133=some 40:=by kernel_rfl
end
end Ty
section
variable {E : Env} [Tb E] {KP : AV -> Sl -> St -> Prop} {KN : PN} {all ops r rest : List Oper} {o : Oper} {oa : Array Oper} {fr : Fr} {l l' : Sl} {i i' n n' bd : Nat} {b : Code} {lg jS : List Nat} {hl ZC : Hl} {Q : Sl -> St -> Prop} {s st : St} {R : Ex -> Fr -> Sl -> St -> Prop} {js : List Nat} {nl : Wu}
theorem Lv (k:Nat) (h:og Zy all fr.nt k ops l=some (r,l')) (hk:CB E KP all r fr l' s Q):CB E KP all ops fr l s Q:=IE Tb.ok h hk
theorem Ls (k:Nat) (h:lL Zy all fr.nt bd k ops l n lg hl=some (r,l',n',jS,ZC)) (hk:CB E KP all r fr l' (Xj n' bd jS ZC) Q):CB E KP all ops fr l (Xj n bd lg hl) Q:=Hu Tb.ok h hk
theorem Nv (k:Nat) (h:te Zy all fr.nt k ops i l=some (r,i',l')) (hk:CK E KN all r i' fr l' st js nl Q):CK E KN all ops i fr l st js nl Q:=LX Tb.ok h hk
theorem Nw (h:te Zy all fr.nt ops.length ops i l=some ([],i',l')) (hk:Q l' st):CK E KN all ops i fr l st js nl Q:=LX Tb.ok h (BT hk)
theorem Lw (h:og Zy all fr.nt ops.length ops l=some ([],l')) (hk:Q l' s):CB E KP all ops fr l s Q:=segW Tb.ok h hk
theorem Lx (h:lL Zy all fr.nt bd ops.length ops l n lg hl=some ([],l',n',jS,ZC)) (hk:Q l' (Xj n' bd jS ZC)):CB E KP all ops fr l (Xj n bd lg hl) Q:=segX Tb.ok h hk
theorem Ew (h:og Zy oa.toList fr.nt oa.toList.length oa.toList l=some ([],l')) (hk:Cz E b fr l' s R):Cz E (.seq (.region i oa false) b) fr l s R:=segA Tb.ok h hk
theorem Eh (h:lL Zy oa.toList fr.nt bd oa.toList.length oa.toList l n lg hl=some ([],l',n',jS,ZC)) (hk:Cz E b fr l' (Xj n' bd jS ZC) R):Cz E (.seq (.region i oa false) b) fr l (Xj n bd lg hl) R:=segB Tb.ok h hk
variable {t yt e f d k off sz x1 : Nat} {x y a c : Operand} {v w p q : AV} {dd : Option TypeDesc} {nn : Option Nat} {aa ii : Option Bool} {rr : Option Nat × Option Bool × Option Bool} {cs XU args : List AV} {part : Bool} {cl : Call} {ts : List TypeId} {ik : IntKind} {od : Option Nat}
theorem kq (h:qv Zy o.op l=some v):X9 E o l v:=rK Tb.ok h
theorem ka {a b:Nat} (h:(o.op,et Zy.ty t,Ch x l,Ch y l)=(.binOp .add t x y yt,some (some (.int .i64),rr),some (.int .i64 (a:Nat)),some (.int .i64 (b:Nat)))) (hb:a+b<9223372036854775808):X9 E o l (.int .i64 ((a+b:Nat):Int)):=
 have h1:=t2 h;have h2:=t2 h1.2;have h3:=t2 h2.2
 X9.addN h1.1 ((Tb.ok.t h2.1).1 _ rfl) h3.1 h3.2 hb
theorem kv {k:Nat} (h:(o.op,et Zy.ty t,et Zy.ty e,Ch x l,Ch y l)=(.indexAddr t x y,some (some (.slice e),rr),some (dd,some (sz+1),aa,ii),some w,some (.int ik (k:Nat)))) (hv:CC (sz+1) k w=some p):X9 E o l p:=
 have h1:=t2 h;have h2:=t2 h1.2;have h3:=t2 h2.2;have h4:=t2 h3.2
 K1 h1.1 ((Tb.ok.t h2.1).1 _ rfl) (Tb.ok.t h3.1).2.1 h4.1 h4.2 hv
theorem kM {b len k:Nat} {cap:Option Nat} (h:(o.op,et Zy.ty t,et Zy.ty e,Ch x l,Ch y l)=(.indexAddr t x y,some (some (.slice e),rr),some (dd,some (sz+1),aa,ii),some (.slice b off len (sz+1) cap),some (.int ik (k:Nat)))) (hk:k<len):X9 E o l (.ptr b (off+k*(sz+1))):=
 have h1:=t2 h;have h2:=t2 h1.2;have h3:=t2 h2.2;have h4:=t2 h3.2
 K2 h1.1 ((Tb.ok.t h2.1).1 _ rfl) (Tb.ok.t h3.1).2.1 h4.1 h4.2 hk
theorem kn (h:(o.op,cl.callee,cl.argTypes.toList,cl.args.toList,et Zy.ty t,Ch x l)=(.call cl,.builtin .len,t::ts,[x],some (some (.slice e),rr),some w)) (hv:Am.dq w=some v):X9 E o l v:=
 have h1:=t2 h;have h2:=t2 h1.2;have h3:=t2 h2.2;have h4:=t2 h3.2;have h5:=t2 h4.2
 Rp h1.1 h2.1 h3.1 h4.1 ((Tb.ok.t h5.1).1 _ rfl) h5.2 hv
theorem ks {a b:Int} (h:(o.op,et Zy.ty t,Ch x l,Ch y l)=(.binOp .sub t x y yt,some (some (.int .i64),rr),some (.int .i64 a),some (.int .i64 b))) (hb: -9223372036854775808<=a-b/\a-b<9223372036854775808):X9 E o l (.int .i64 (a-b)):=
 have h1:=t2 h;have h2:=t2 h1.2;have h3:=t2 h2.2
 X9.sub h1.1 ((Tb.ok.t h2.1).1 _ rfl) h3.1 h3.2 hb
theorem kl {b:Nat} (h:(o.op,Ch a l,et Zy.ty t)=(.load t a,some (.ptr b off),some (dd,some k,some false,ii))) (hg:s.heap.get b=some (.cells cs e part)) (hv:cs[off]?=some v):Zl E o fr l s v s:=
 have h1:=t2 h;have h2:=t2 h1.2;have h3:=Tb.ok.t h2.2
 B9 h1.1 h2.1 (AI h3.2.2.1 h3.2.1 hg hv)
theorem kL {b:Nat} (h:(o.op,Ch a l,et Zy.ty t)=(.load t a,some (.ptr b off),some (dd,some k,some true,ii))) (hg:s.heap.get b=some (.cells cs e part)) (hn:Nat.ble (off+k) cs.length=true):Zl E o fr l s (.agg ((cs.drop off).take k)) s:=
 have h1:=t2 h;have h2:=t2 h1.2;have h3:=Tb.ok.t h2.2
 B9 h1.1 h2.1 (BM h3.2.2.1 h3.2.1 hg (Qc hn))
theorem kw {b:Nat} (h:(o.op,Ch a l,Ch x l,et Zy.ty t)=(.store t a x,some (.ptr b off),some v,some (dd,some k,aa,ii))) (hg:s.heap.get b=some (.cells cs e part)) (h2:(v.cells.length,v.isTuple,over v.cells off cs)=(k,false,some XU)):Zl E o fr l s (.tuple []) (s.put b (some (.cells XU e part))):=
 have h1:=t2 h;have h3:=t2 h1.2;have h4:=t2 h3.2;have h5:=t2 h2;have h6:=t2 h5.2
 BD h1.1 (Tb.ok.t h4.2).2.1 h3.1 h4.1 (Ds hg h5.1 h6.1 h6.2)
theorem kz {z:AV} (h:(o.op,et Zy.ze t)=(.alloc t,some (some z))):Zl E o fr l s (.ptr s.next 0) (s.alloc (.cells z.cells t false)):=Zl.alloc (t2 h).1 (Tb.ok.z (t2 h).2)
theorem kc (h:(o.op,cl.callee,mw Zy f,WV cl.args.toList l)=(.call cl,.value (.func f),true,some args)) (hm:E.Y3 f args=some v):Zl E o fr l s v s:=
 have h1:=t2 h;have h2:=t2 h1.2;have h3:=t2 h2.2
 Av h1.1 h2.1 (Tb.ok.b h3.1) h3.2 (Cc.Y3 hm)
theorem kC (h:(o.op,cl.callee,mw Zy f,WV cl.args.toList l)=(.call cl,.value (.func f),true,some args)) (hm:E.Y3 f args=some v):OpA E o fr l v:=
 have h1:=t2 h;have h2:=t2 h1.2;have h3:=t2 h2.2
 SU h1.1 h2.1 (Tb.ok.b h3.1) h3.2 hm
theorem kf (h:(o.op,cl.callee,mw Zy f,WV cl.args.toList l,o.guard,o.dst,Nat.blt d fr.nt)=(.call cl,.value (.func f),true,some args,none,some d,true)) (hr:VZ E f args s fun v s'=>CB E KP all rest fr ((d,v)::l) s' Q):CB E KP all (o::rest) fr l s Q:=
 have h1:=t2 h;have h2:=t2 h1.2;have h3:=t2 h2.2;have h4:=t2 h3.2;have h5:=t2 h4.2;have h6:=t2 h5.2
 PK h1.1 h2.1 (Tb.ok.b h3.1) h4.1 h5.1 h6.1 h6.2 hr
theorem Nm {b:Nat} (h:(o.op,Ch a (CQ (tmpsOf o.op.operands.toList) l),et Zy.ty t)=(.load t a,some (.ptr b off),some (dd,some k,some false,ii))) (hg:st.heap.get b=some (.cells cs e part)) (hv:cs[off]?=some v) (hG:CY all l o) (hc:(WC (CZ all i) b nl,o.dst,WB fr.nt od)=(true,od,true))
 (hk:CK E KN all rest (i+1) fr (Xp od v l) st (i::js) nl Q):CK E KN all (o::rest) i fr l st js nl Q:=
 have h1:=t2 h;have h2:=t2 h1.2;have h3:=Tb.ok.t h2.2;have h4:=t2 hc
 B5 h1.1 h2.1 (AI h3.2.2.1 h3.2.1 hg hv) h4.1 hG (t2 h4.2).1 (t2 h4.2).2 hk
theorem NM {b:Nat} (h:(o.op,Ch a (CQ (tmpsOf o.op.operands.toList) l),et Zy.ty t)=(.load t a,some (.ptr b off),some (dd,some k,some true,ii))) (hg:st.heap.get b=some (.cells cs e part)) (hn:Nat.ble (off+k) cs.length=true) (hG:CY all l o) (hc:(WC (CZ all i) b nl,o.dst,WB fr.nt od)=(true,od,true))
 (hk:CK E KN all rest (i+1) fr (Xp od (.agg ((cs.drop off).take k)) l) st (i::js) nl Q):CK E KN all (o::rest) i fr l st js nl Q:=
 have h1:=t2 h;have h2:=t2 h1.2;have h3:=Tb.ok.t h2.2;have h4:=t2 hc
 B5 h1.1 h2.1 (BM h3.2.2.1 h3.2.1 hg (Qc hn)) h4.1 hG (t2 h4.2).1 (t2 h4.2).2 hk
theorem As {fn:Func} {cb:Code} {l0:Sl} {rs:List ResultVar} (h:(E.j0 f,E.Y3 f args,et Zy.fn f,fn.body,fn.results.toList,frame fn.ntmps args none,ZS 0 args [])=(1,none,some (some fn),some cb,rs,fr,l0))
 (hk:Cz E cb fr l0 (Xj 0 0 [] []) fun ex fr l st=>(ex= .ret\/ex= .normal)/\fr.defers=[]/\st.log=[]/\st.bound=0/\∃vs w ks,CI E st l rs=some vs/\Cs st 0 40 (ck vs) []=some (w,ks)/\Cr 0 40 w=true/\w=v):Cc E f args S0 v:=
 have h1:=t2 h;have h3:=t2 h1.2;have h4:=t2 h3.2;have h5:=t2 h4.2;have h6:=t2 h5.2;have h7:=t2 h6.2
 Fz h1.1 h3.1 (Tb.ok.g h4.1) h5.1 h6.1 h7.1 h7.2 hk
theorem Ar {fn:Func} {cb:Code} {l0:Sl} {rs:List ResultVar} {RV RP:AV->St->Prop} (h:(E.Y3 f args,et Zy.fn f,fn.body,fn.results.toList,frame fn.ntmps args none,ZS 0 args [])=(none,some (some fn),some cb,rs,fr,l0))
 (hk:Cz E cb fr l0 s.enter (vP E f rs s RV RP)):CE E f args s RV RP:=
 have h3:=t2 h;have h4:=t2 h3.2;have h5:=t2 h4.2;have h6:=t2 h5.2;have h7:=t2 h6.2
 CE.gen h3.1 (Tb.ok.g h4.1) h5.1 h6.1 h7.1 h7.2 hk
end
section
variable {E : Env} {fr : Fr} {l : Sl} {s : St} {Q : Ex -> Fr -> Sl -> St -> Prop} {a b : Code} {i : Nat} {x : Operand} {ops : Array Oper}
theorem Ln {KP:AV->Sl->St->Prop} {o:Oper} {all rest:List Oper} {v:AV} {s':St} {Q:Sl->St->Prop} (ho:Zl E o fr l s v s') (hg:(o.guard,o.dst)=(none,none)) (h:CB E KP all rest fr l s' Q):CB E KP all (o::rest) fr l s Q:=MM ho (t2 hg).1 (t2 hg).2 h
theorem Na {KN:PN} {all rest:List Oper} {o:Oper} {i:Nat} {js:List Nat} {nl:Wu} {Q:Sl->St->Prop} {od:Option Nat} {v:AV} (ho:OpA E o fr (CQ (tmpsOf o.op.operands.toList) l) v) (hG:CY all l o) (hc:(o.dst,WB fr.nt od)=(od,true)) (hk:CK E KN all rest (i+1) fr (Xp od v l) s (i::js) nl Q):CK E KN all (o::rest) i fr l s js nl Q:=CK.aG ho hG (t2 hc).1 (t2 hc).2 hk
theorem Sq (h:Cz E a fr l s (sW E b Q)):Cz E (.seq a b) fr l s Q:=DK h
theorem Sk (h:Q .normal fr l s):Cz E .skip fr l s Q:=Ho h
theorem Sb (h:Cz E b fr l s (qA i Q)):Cz E (.block i b) fr l s Q:=Cz.block h
theorem Sx (h:Q (.exit i) fr l s):Cz E (.exit i) fr l s Q:=VV h
theorem Sr (h:CB E (fun v l s=>Q (.panic v) fr l s) ops.toList ops.toList fr l s (Q .normal fr)):Cz E (.region i ops false) fr l s Q:=MQ h
theorem Tt (hx:Ch x l=some (.bool true)) (h:Cz E a fr l s Q):Cz E (.cond x a b) fr l s Q:=HO hx rfl h
theorem Tf (hx:Ch x l=some (.bool false)) (h:Cz E b fr l s Q):Cz E (.cond x a b) fr l s Q:=HP hx rfl h
theorem Se (h:Q .ret fr l s):Cz E .ret fr l s Q:=Bp h
theorem Cb {t:Nat} {c:Bool} (hx:Am.look t l=some (.bool c)) (h1:c=true->Cz E a fr ((t,.bool true)::l) s Q) (h0:c=false->Cz E b fr ((t,.bool false)::l) s Q):Cz E (.cond (.tmp t) a b) fr l s Q:=FQ hx h1 h0
theorem Cd {t:Nat} {p:Prop} {dp:Decidable p} (hx:Am.look t l=some (.bool (decide p))) (h1:p->Cz E a fr ((t,.bool true)::l) s Q) (h0:¬p->Cz E b fr ((t,.bool false)::l) s Q):Cz E (.cond (.tmp t) a b) fr l s Q:=FQ hx (fun g=>h1 (dT g)) fun g=>h0 (dF g)
theorem Ce {t:Nat} {p:Prop} {dp:Decidable p} (hx:Am.look t l=some (.bool (!decide p))) (h1:¬p->Cz E a fr ((t,.bool true)::l) s Q) (h0:p->Cz E b fr ((t,.bool false)::l) s Q):Cz E (.cond (.tmp t) a b) fr l s Q:=FQ hx (fun g=>h1 (nT g)) fun g=>h0 (nF g)
theorem Cn {t:Nat} {c:Bool} (hx:Am.look t l=some (.bool (!c))) (h1:c=false->Cz E a fr ((t,.bool true)::l) s Q) (h0:c=true->Cz E b fr ((t,.bool false)::l) s Q):Cz E (.cond (.tmp t) a b) fr l s Q:=FQ hx (fun g=>h1 (tb g)) fun g=>h0 (tc g)
theorem Bb {KP:AV->Sl->St->Prop} {all rest:List Oper} {o oj:Oper} {K:Sl->St->Prop} {j e:Nat} {w b:Bool} (hg:(o.guard,nth all j,oj.dst,Am.look e l)=(some (j,w),some oj,some e,some (.bool b)))
 (h1:b=true->CB E KP all (o::rest) fr ((e,.bool true)::l) s K) (h0:b=false->CB E KP all (o::rest) fr ((e,.bool false)::l) s K):CB E KP all (o::rest) fr l s K:=BI (t2 (t2 (t2 hg).2).2).2 h1 h0
variable {KP : AV -> Sl -> St -> Prop} {KN : PN} {all rest : List Oper} {o oj : Oper} {K : Sl -> St -> Prop} {j e : Nat} {w : Bool} {js : List Nat} {nl : Wu}
theorem Bd {p:Prop} {dp:Decidable p} (hg:(o.guard,nth all j,oj.dst,Am.look e l)=(some (j,w),some oj,some e,some (.bool (decide p))))
 (h1:p->CB E KP all (o::rest) fr ((e,.bool true)::l) s K) (h0:¬p->CB E KP all (o::rest) fr ((e,.bool false)::l) s K):CB E KP all (o::rest) fr l s K:=Bb hg (fun g=>h1 (dT g)) fun g=>h0 (dF g)
theorem Be {p:Prop} {dp:Decidable p} (hg:(o.guard,nth all j,oj.dst,Am.look e l)=(some (j,w),some oj,some e,some (.bool (!decide p))))
 (h1:¬p->CB E KP all (o::rest) fr ((e,.bool true)::l) s K) (h0:p->CB E KP all (o::rest) fr ((e,.bool false)::l) s K):CB E KP all (o::rest) fr l s K:=Bb hg (fun g=>h1 (nT g)) fun g=>h0 (nF g)
theorem Bn {c:Bool} (hg:(o.guard,nth all j,oj.dst,Am.look e l)=(some (j,w),some oj,some e,some (.bool (!c))))
 (h1:c=false->CB E KP all (o::rest) fr ((e,.bool true)::l) s K) (h0:c=true->CB E KP all (o::rest) fr ((e,.bool false)::l) s K):CB E KP all (o::rest) fr l s K:=Bb hg (fun g=>h1 (tb g)) fun g=>h0 (tc g)
theorem Db {b:Bool} (hg:(o.guard,nth all j,oj.dst,Am.look e l)=(some (j,w),some oj,some e,some (.bool b)))
 (h1:b=true->CK E KN all (o::rest) i fr ((e,.bool true)::l) s js nl K) (h0:b=false->CK E KN all (o::rest) i fr ((e,.bool false)::l) s js nl K):CK E KN all (o::rest) i fr l s js nl K:=have h2:=t2 hg;have h3:=t2 h2.2;have h4:=t2 h3.2;SH h2.1 h3.1 h4.1 h4.2 h1 h0
theorem Dd {p:Prop} {dp:Decidable p} (hg:(o.guard,nth all j,oj.dst,Am.look e l)=(some (j,w),some oj,some e,some (.bool (decide p))))
 (h1:p->CK E KN all (o::rest) i fr ((e,.bool true)::l) s js nl K) (h0:¬p->CK E KN all (o::rest) i fr ((e,.bool false)::l) s js nl K):CK E KN all (o::rest) i fr l s js nl K:=Db hg (fun g=>h1 (dT g)) fun g=>h0 (dF g)
theorem gG (h:(o.guard,nth all j,oj.dst,Am.look e l)=(some (j,w),some oj,some e,some (.bool w))):CY all l o:=have h2:=t2 h;have h3:=t2 h2.2;have h4:=t2 h3.2;KX h2.1 h3.1 h4.1 h4.2 rfl
theorem Nz {od:Option Nat} {v:AV} (ho:X9 E o (CQ (tmpsOf o.op.operands.toList) l) v) (hg:(o.guard,nth all j,oj.dst,Am.look e l)=(some (j,w),some oj,some e,some (.bool w))) (hd:(o.dst,WB fr.nt od)=(od,true)) (h:CK E KN all rest (i+1) fr (Xp od v l) s js nl K):CK E KN all (o::rest) i fr l s js nl K:=ML ho (gG hg) (t2 hd).1 (t2 hd).2 h
end
end Go.Proofs.YtfhimfcbphepeaaGreatDoor
open Go Am
namespace Go.Proofs.YtfhimfcbphepeaaGreatDoor.Ty
abbrev gn:kU:=fun _=>none
theorem Aj:∀g cs,gn g=some cs->cs.all (Cj 40)=true:=fun _ _ h=>by cases h
theorem Ax:Z6 Tryz.prog 1200 1200:=⟨dT (by kernel_rfl),dT (by kernel_rfl),by kernel_rfl,by kernel_rfl⟩
def K0:FuncId->List AV->Option AV:=fun f args=>match f with
 |8=>match args with
  | []=>some (.bool true)
  |_=>none
 |_=>none
theorem Rr (h:Wq Tryz.prog 8 [] (.bool true)):Cq Tryz.prog gn K0:=by
 intro f args v hv;unfold K0 at hv;split at hv
 .split at hv
  .cases hv;exact h.g
  .cases hv
 .cases hv
def C5 (a b n:Int):Bool:=decide (a<=n)&&decide (n<=b)
def CL (n:Int):Bool:=decide (n=32)||decide (n=10)
def WG (n:Int):Bool:= !decide (n=10)
def fb (n:Int):Bool:=decide (n=126)
def aQ:FuncId->Option (Int->Bool)
 |90=>some (C5 97 122)
 |173=>some (C5 65 90)
 |212=>some (C5 48 57)
 |162=>some (C5 97 122)
 |165=>some (C5 65 90)
 |230=>some (C5 48 57)
 |208=>some CL
 |210=>some WG
 |255=>some fb
 |_=>none
theorem Aac {f:FuncId} {p:Int->Bool} (hf:aQ f=some p) (n:Int):Cc (EK K0) f [.int .u8 n] S0 (.bool (p n)):=by
 unfold aQ at hf;split at hf<;>cases hf
 .refine As U ?_;focus
   refine Ew U<|Es<|Lv 3 U ?_;refine Bb U (fun g1=>?_) (fun g1=>?_);have h1:=dT g1;refine Lw U ?_;refine Bp (Er U ?_);refine Ab ?_;rotate_left;have h1:=dF g1;refine Lw U ?_;refine Bp (Er U ?_);refine Ab ?_;rotate_left
  all_goals (unfold C5;rw[g1];rfl)
 .refine As U ?_;focus
   refine Ew U<|Es<|Lv 3 U ?_;refine Bb U (fun g1=>?_) (fun g1=>?_);have h1:=dT g1;refine Lw U ?_;refine Bp (Er U ?_);refine Ab ?_;rotate_left;have h1:=dF g1;refine Lw U ?_;refine Bp (Er U ?_);refine Ab ?_;rotate_left
  all_goals (unfold C5;rw[g1];rfl)
 .refine As U ?_;focus
   refine Ew U<|Es<|Lv 3 U ?_;refine Bb U (fun g1=>?_) (fun g1=>?_);have h1:=dT g1;refine Lw U ?_;refine Bp (Er U ?_);refine Ab ?_;rotate_left;have h1:=dF g1;refine Lw U ?_;refine Bp (Er U ?_);refine Ab ?_;rotate_left
  all_goals (unfold C5;rw[g1];rfl)
 .refine As U ?_;focus
   refine Ew U<|Es<|Lv 3 U ?_;refine Bb U (fun g1=>?_) (fun g1=>?_);have h1:=dT g1;refine Lw U ?_;refine Bp (Er U ?_);refine Ab ?_;rotate_left;have h1:=dF g1;refine Lw U ?_;refine Bp (Er U ?_);refine Ab ?_;rotate_left
  all_goals (unfold C5;rw[g1];rfl)
 .refine As U ?_;focus
   refine Ew U<|Es<|Lv 3 U ?_;refine Bb U (fun g1=>?_) (fun g1=>?_);have h1:=dT g1;refine Lw U ?_;refine Bp (Er U ?_);refine Ab ?_;rotate_left;have h1:=dF g1;refine Lw U ?_;refine Bp (Er U ?_);refine Ab ?_;rotate_left
  all_goals (unfold C5;rw[g1];rfl)
 .refine As U ?_;focus
   refine Ew U<|Es<|Lv 3 U ?_;refine Bb U (fun g1=>?_) (fun g1=>?_);have h1:=dT g1;refine Lw U ?_;refine Bp (Er U ?_);refine Ab ?_;rotate_left;have h1:=dF g1;refine Lw U ?_;refine Bp (Er U ?_);refine Ab ?_;rotate_left
  all_goals (unfold C5;rw[g1];rfl)
 .refine As U ?_;focus
   refine Ew U<|Es<|Lv 3 U ?_;refine Bb U (fun g1=>?_) (fun g1=>?_);have h1:=dT g1;refine Lw U ?_;refine Bp (Er U ?_);refine Ab ?_;rotate_left;have h1:=dF g1;refine Lw U ?_;refine Bp (Er U ?_);refine Ab ?_;rotate_left
  all_goals (unfold CL;rw[g1];rfl)
 .refine As U ?_;iterate 2 refine Ew U ?_
  refine Se (Er U ?_);exact Ab U;all_goals rfl
 .refine As U ?_;iterate 2 refine Ew U ?_
  refine Se (Er U ?_);exact Ab U;all_goals rfl
def KB:FuncId->List AV->Option AV:=fun f args=>match aQ f with
 |some p=>match args with
  | [.int .u8 n]=>some (.bool (p n))
  |_=>none
 |none=>K0 f args
theorem allB (h:Wq Tryz.prog 8 [] (.bool true)):Cq Tryz.prog gn KB:=by
 intro f args v hv;unfold KB at hv;cases hb:aQ f with
 |none=>rw[hb]at hv;exact Rr h f args v hv
 |some p=>
  rw[hb]at hv;simp only at hv;split at hv
  .next n=>
   cases hv;exact AP Ax Aj (Rr h) (Aac hb n) U U
  .cases hv
theorem wg {n:Int}:KB 90 [.int .u8 n]=some (.bool (C5 97 122 n)):=rfl
theorem P0 {n:Int}:KB 173 [.int .u8 n]=some (.bool (C5 65 90 n)):=rfl
theorem Aad {n:Int}:KB 212 [.int .u8 n]=some (.bool (C5 48 57 n)):=rfl
theorem UF {n:Int}:KB 162 [.int .u8 n]=some (.bool (C5 97 122 n)):=rfl
theorem UE {n:Int}:KB 165 [.int .u8 n]=some (.bool (C5 65 90 n)):=rfl
theorem Aae {n:Int}:KB 230 [.int .u8 n]=some (.bool (C5 48 57 n)):=rfl
theorem V8 {g:FuncId} (hg:(aQ g).isSome=true):C7 (EK KB) g=true:=by
 unfold aQ at hg;split at hg
 all_goals first|exact absurd hg (by decide)|kernel_rfl
abbrev Str:= {w:List UInt8//w.length<=100000}
theorem row_to {g:FuncId} {p:Int->Bool} (hg:aQ g=some p) (w:List UInt8) (hw:w.length<=100000):Cc (EK KB) 174 [.str w,.func (.func g) [] []] S0 (.int .i64 (tw p w:Nat)):=by
 have hle:=Et p w;have hb:=V8 (g:=g) (by rw[hg];rfl);have hk:∀n,KB g [.int .u8 n]=some (.bool (p n)):=fun n=>by unfold KB;rw[hg]
 refine As U ?_;iterate 2 refine Ew U ?_
 refine Sq<|Sb ?_;refine Ai (fun k:Nat=>([(5,.int .i64 (k:Nat)),(0,.str w),(1,.func (.func g) [] [])],Xj 0 0 [] [])) (fun k=>w.length-k) (fun k=>k<=tw p w) 0 (Qm _) U (Ah (by repeat' constructor)) fun k xY=>?_;by_cases Co:k<w.length
 .focus
   refine Sq<|Es<|Lv 2 U<|Lq (Ac U U U U CT U) U<|Lv 2 U ?_;refine Lb U (fun g1=>?_) (fun g1=>?_);have h1:=dT g1;iterate 3 refine Lh U g1 (kq U) ?_
   refine Lh U g1 (A0 U CT U U (by omega)) ?_;rotate_left;have h1:=dF g1;exact absurd h1 (by omega)
  refine MO U U U U g1 (BJ U U U hb U (Cc.Y3 (hk _))) U U ?_;focus
   refine Lq (oT U g1 U) U<|Ld ?_;refine Ec U (fun g2=>?_) (fun g2=>?_);refine Sk<|Sb<|Sr<|qm U ?_;refine Lq (ka (b:=1) U (by omega)) U ?_;refine Lw U ?_;rotate_left;refine Sx<|A8 U<|Ew U ?_;refine Se (Er U ?_);rotate_left
  .exact⟨k+1,(EM xY Co).1 g2,by show w.length-(k+1)<w.length-k;omega,U,U,Ah (by repeat' constructor)⟩
  .have h2:¬k<tw p w:=fun h=>by
    have:=(EM xY Co).2 h
    simp_all
   show AV.int .i64 (k:Nat)=_;rw[show k=tw p w by omega]
 .focus
   refine Sq<|Es<|Lv 2 U<|Lq (Ac U U U U CT U) U<|Lv 2 U ?_;refine Lb U (fun g1=>?_) (fun g1=>?_);have h1:=dT g1;exact absurd h1 (by omega);have h1:=dF g1;iterate 5 refine Lk U g1 ?_
   refine Lq (oF U g1 U) U<|Ld<|Tf U<|Sx<|A8 U<|Ew U ?_;refine Se (Er U ?_);rotate_left
  show AV.int .i64 (k:Nat)=_;rw[show k=tw p w by omega]
abbrev RowT:= {g:FuncId//(aQ g).isSome=true}×Str
def encW (p:RowT):List AV:=[.str p.2.1,.func (.func p.1.1) [] []]
def rowV (p:RowT):AV:= .int .i64 (tw ((aQ p.1.1).getD fun _=>false) p.2.1:Nat)
noncomputable def Ka:=W7 KB 174 encW rowV
theorem Gh {g:FuncId} {p:Int->Bool} (hg:aQ g=some p) {w:List UInt8} (hw:w.length<=100000):Ka 174 [.str w,.func (.func g) [] []]=some (.int .i64 (tw p w:Nat)):=by
 have:=An (K:=KB) (f:=174) (enc:=encW) (res:=rowV) (by
  rintro⟨⟨a,_⟩,⟨b,_⟩⟩ ⟨⟨c,_⟩,⟨d,_⟩⟩ h;cases h;rfl) (⟨g,by rw[hg];rfl⟩,⟨w,hw⟩)
 refine this.trans ?_;show some (AV.int .i64 (tw ((aQ g).getD fun _=>false) w:Nat))=_;rw[hg];rfl
theorem alla (h:Wq Tryz.prog 8 [] (.bool true)):Cq Tryz.prog gn Ka:=
 A3 Ax Aj (allB h) (fun p:RowT=>by
  obtain⟨⟨g,hg⟩,w⟩:=p;obtain⟨p,hp⟩:=Option.isSome_iff_exists.1 hg;have:=row_to hp w.1 w.2;unfold encW rowV;dsimp only;rw[hp];exact this) (fun _=>rfl) (fun _=>rfl)
theorem Fe (w:List UInt8) (k n:Nat):(w.drop k).getD n 0=w.getD (k+n) 0:=by
 rw[List.getD_eq_getElem?_getD,List.getD_eq_getElem?_getD,List.getElem?_drop]
abbrev qF:= {p:List UInt8×Nat//p.1.length<=100000/\p.2<=p.1.length}
def j6 (p:qF):List AV:=[.str p.1.1,.int .i64 (p.1.2:Nat)]
theorem Hc (a b:qF) (h:j6 a=j6 b):a=b:=by
 obtain⟨⟨a,i⟩,_⟩:=a;obtain⟨⟨b,j⟩,_⟩:=b;have h1:=AV.str.inj (List.cons.inj h).1;have h2:=(AV.int.inj (List.cons.inj (List.cons.inj h).2).1).2;dsimp only at h1 h2;obtain rfl:=h1;obtain rfl:=Int.ofNat.inj h2;rfl
theorem Tp (w:List UInt8) (k:Nat) (hw:w.length<=100000) (hkw:k<=w.length):Cc (EK Ka) 163 [.str w,.int .i64 (k:Nat)] S0 (.int .i64 (tw (C5 97 122) (w.drop k):Nat)):=by
 have hle:=Et (C5 97 122) (w.drop k);have hl:(w.drop k).length=w.length-k:=List.length_drop;refine As U ?_;iterate 2 refine Ew U ?_
 refine Sq<|Sb ?_;refine Ai (fun i:Nat=>([(5,.int .i64 (i:Nat)),(0,.str w),(1,.int .i64 (k:Nat))],Xj 0 0 [] [])) (fun i=>w.length-i) (fun i=>i<=tw (C5 97 122) (w.drop k)) 0 (Qm _) U (Ah (by repeat' constructor)) fun i hi=>?_;have WT:=EM (p:=C5 97 122) (w:=w.drop k) hi;rw[Fe]at WT;focus
  refine Sq<|Es<|Lv 2 U ?_;refine Lq (ka U (by omega)) U ?_;refine qm U<|Lq (Ac U U U U CT U) U<|Lv 2 U ?_;refine Bd U (fun h1=>?_) (fun h1=>?_);refine Lv 3 U ?_;refine Lh U U (ka U (by omega)) ?_;refine Lh U U (A0 U CT U U (by omega)) ?_;refine Lg U U (kc U (UF))<|Lw U ?_;refine Cb U (fun g2=>?_) (fun g2=>?_);refine Sk<|Sb<|Sr<|qm U ?_;refine Lq (ka (b:=1) U (by omega)) U ?_;refine Lw U ?_;rotate_left;refine Sx<|A8 U<|Ew U ?_;refine Se (Er U ?_);rotate_left;refine Lw U<|Tf U<|Sx<|A8 U<|Ew U ?_;refine Se (Er U ?_);rotate_left
 .exact⟨i+1,(WT (by omega)).1 g2,by show w.length-(i+1)<w.length-i;omega,U,U,Ah (by repeat' constructor)⟩
 .have h2:¬i<tw (C5 97 122) (w.drop k):=fun h=>by
   have:=(WT (by omega)).2 h
   simp_all
  show AV.int .i64 (i:Nat)=_;rw[show i=tw (C5 97 122) (w.drop k) by omega]
 .show AV.int .i64 (i:Nat)=_;rw[show i=tw (C5 97 122) (w.drop k) by omega]
theorem Vr (w:List UInt8) (k:Nat) (hw:w.length<=100000) (hkw:k<=w.length):Cc (EK Ka) 166 [.str w,.int .i64 (k:Nat)] S0 (.int .i64 (tw (C5 48 57) (w.drop k):Nat)):=by
 have hle:=Et (C5 48 57) (w.drop k);have hl:(w.drop k).length=w.length-k:=List.length_drop;refine As U ?_;iterate 2 refine Ew U ?_
 refine Sq<|Sb ?_;refine Ai (fun i:Nat=>([(5,.int .i64 (i:Nat)),(0,.str w),(1,.int .i64 (k:Nat))],Xj 0 0 [] [])) (fun i=>w.length-i) (fun i=>i<=tw (C5 48 57) (w.drop k)) 0 (Qm _) U (Ah (by repeat' constructor)) fun i hi=>?_;have WT:=EM (p:=C5 48 57) (w:=w.drop k) hi;rw[Fe]at WT;focus
  refine Sq<|Es<|Lv 2 U ?_;refine Lq (ka U (by omega)) U ?_;refine qm U<|Lq (Ac U U U U CT U) U<|Lv 2 U ?_;refine Bd U (fun h1=>?_) (fun h1=>?_);refine Lv 3 U ?_;refine Lh U U (ka U (by omega)) ?_;refine Lh U U (A0 U CT U U (by omega)) ?_;refine Lg U U (kc U (Aae))<|Lw U ?_;refine Cb U (fun g2=>?_) (fun g2=>?_);refine Sk<|Sb<|Sr<|qm U ?_;refine Lq (ka (b:=1) U (by omega)) U ?_;refine Lw U ?_;rotate_left;refine Sx<|A8 U<|Ew U ?_;refine Se (Er U ?_);rotate_left;refine Lw U<|Tf U<|Sx<|A8 U<|Ew U ?_;refine Se (Er U ?_);rotate_left
 .exact⟨i+1,(WT (by omega)).1 g2,by show w.length-(i+1)<w.length-i;omega,U,U,Ah (by repeat' constructor)⟩
 .have h2:¬i<tw (C5 48 57) (w.drop k):=fun h=>by
   have:=(WT (by omega)).2 h
   simp_all
  show AV.int .i64 (i:Nat)=_;rw[show i=tw (C5 48 57) (w.drop k) by omega]
 .show AV.int .i64 (i:Nat)=_;rw[show i=tw (C5 48 57) (w.drop k) by omega]
noncomputable def Kb:=W7 Ka 163 j6 (fun p=> .int .i64 (tw (C5 97 122) (p.1.1.drop p.1.2):Nat))
noncomputable def Kc:=W7 Kb 166 j6 (fun p=> .int .i64 (tw (C5 48 57) (p.1.1.drop p.1.2):Nat))
theorem QF {w:List UInt8} {k:Nat} (hw:w.length<=100000) (hk:k<=w.length):Kb 163 [.str w,.int .i64 (k:Nat)]=some (.int .i64 (tw (C5 97 122) (w.drop k):Nat)):=
 An (enc:=j6) (fun a b h=>by rw[Hc a b h]) ⟨(w,k),hw,hk⟩
theorem wh {w:List UInt8} {k:Nat} (hw:w.length<=100000) (hk:k<=w.length):Kc 166 [.str w,.int .i64 (k:Nat)]=some (.int .i64 (tw (C5 48 57) (w.drop k):Nat)):=
 An (enc:=j6) (fun a b h=>by rw[Hc a b h]) ⟨(w,k),hw,hk⟩
def isWord (w:List UInt8):Bool:=Cp w [100,97,116,97]||(Cp w [108,101,116]||(Cp w [105,110]||(Cp w [119,104,101,110]||Cp w [116,104,101,110])))
theorem wi (w:List UInt8):Cc (EK Kc) 164 [.str w] S0 (.bool (isWord w)):=by
 refine As U ?_;unfold isWord;focus
  refine Ew U<|Es<|qm U<|Lq (A2 U CT U U U U) U<|qm U ?_;refine Bb U (fun g1=>?_) (fun g1=>?_);have h1:=bT g1;refine Lw U ?_;refine Se (Er U ?_);refine Ab ?_;rotate_left;have h1:=bF g1;refine Lv 1 U<|Lh U U (A2 U CT U U U U)<|Lv 2 U ?_;refine Bb U (fun g2=>?_) (fun g2=>?_);have h2:=bT g2;refine Lw U ?_;refine Se (Er U ?_);refine Ab ?_;rotate_left;have h2:=bF g2;refine Lv 1 U<|Lh U U (A2 U CT U U U U)<|Lv 2 U ?_;refine Bb U (fun g3=>?_) (fun g3=>?_);have h3:=bT g3;refine Lw U ?_;refine Se (Er U ?_);refine Ab ?_;rotate_left;have h3:=bF g3;refine Lv 1 U<|Lh U U (A2 U CT U U U U)<|Lv 2 U ?_;refine Bb U (fun g4=>?_) (fun g4=>?_);have h4:=bT g4;refine Lw U ?_;refine Se (Er U ?_);refine Ab ?_;rotate_left;have h4:=bF g4;refine Lv 1 U<|Lh U U (A2 U CT U U U U)<|Lw U ?_;refine Se (Er U ?_);refine Ab ?_;rotate_left
 all_goals (
  (first|rw[show Cp w [100,97,116,97]=true from g1]|rw[show Cp w [100,97,116,97]=false from g1])
  (try (first|rw[show Cp w [108,101,116]=true from g2]|rw[show Cp w [108,101,116]=false from g2]))
  (try (first|rw[show Cp w [105,110]=true from g3]|rw[show Cp w [105,110]=false from g3]))
  (try (first|rw[show Cp w [119,104,101,110]=true from g4]|rw[show Cp w [119,104,101,110]=false from g4]))
  (try (first|rw[show Cp w [116,104,101,110]=true from g5]|rw[show Cp w [116,104,101,110]=false from g5]))
  rfl)
theorem Aaf (w:List UInt8):Cc (EK Kc) 110 [.str w] S0 (.bool (isWord w)):=by
 refine As U ?_;unfold isWord;focus
  refine Ew U<|Es<|Lo (Bi 1 U MV HT pU U U U U) U<|qm U<|AT (fn:=Tryz.f111) (by kernel_rfl) (by kernel_rfl) U U U U U U U U U U U<|Ew U<|Es<|Lv 2 U<|AT (fn:=Tryz.f175) (by kernel_rfl) (by kernel_rfl) U U U U U U U U U U U<|Ew U<|Sq<|Ew U<|Sb<|Dh<|Ew U<|Sq ?_;refine Tt U<|Sk<|Sq<|Sb<|Ew U<|Es<|Lv 3 U ?_;refine Lq (kM (k:=0) U (by omega)) U ?_;refine Ls 1 U<|Lq (A2 U CT U U U U) U<|Ld ?_;refine Cb U (fun g1=>?_) (fun g1=>?_);have h1:=bT g1;refine Ew U ?_;refine Se (Al (Xw.same U (Aa U U) U U U U ?_));refine Lw U ?_;refine Se (Al (Xw.same U (Aa U U) U U U U ?_));refine Lw U ?_;refine Se (Er U ?_);refine Ab ?_;rotate_left;have h1:=bF g1;refine Sk<|Sr ?_;refine Lq (ka (a:=0) (b:=1) U (by omega)) U ?_;refine Lw U<|Dh<|Ew U<|Sq<|Tt U<|Sk<|Sq<|Sb<|Ew U<|Es<|Lv 3 U ?_;refine Lq (kM (k:=1) U (by omega)) U ?_;refine Ls 1 U<|Lq (A2 U CT U U U U) U<|Ld ?_;refine Cb U (fun g2=>?_) (fun g2=>?_)
  have h2:=bT g2;refine Ew U ?_;refine Se (Al (Xw.same U (Aa U U) U U U U ?_));refine Lw U ?_;refine Se (Al (Xw.same U (Aa U U) U U U U ?_));refine Lw U ?_;refine Se (Er U ?_);refine Ab ?_;rotate_left;have h2:=bF g2;refine Sk<|Sr ?_;refine Lq (ka (a:=1) (b:=1) U (by omega)) U ?_;refine Lw U<|Dh<|Ew U<|Sq<|Tt U<|Sk<|Sq<|Sb<|Ew U<|Es<|Lv 3 U ?_;refine Lq (kM (k:=2) U (by omega)) U ?_;refine Ls 1 U<|Lq (A2 U CT U U U U) U<|Ld ?_;refine Cb U (fun g3=>?_) (fun g3=>?_);have h3:=bT g3;refine Ew U ?_;refine Se (Al (Xw.same U (Aa U U) U U U U ?_));refine Lw U ?_;refine Se (Al (Xw.same U (Aa U U) U U U U ?_));refine Lw U ?_;refine Se (Er U ?_);refine Ab ?_;rotate_left;have h3:=bF g3;refine Sk<|Sr ?_;refine Lq (ka (a:=2) (b:=1) U (by omega)) U ?_;refine Lw U<|Dh<|Ew U<|Sq<|Tt U<|Sk<|Sq<|Sb<|Ew U<|Es<|Lv 3 U ?_;refine Lq (kM (k:=3) U (by omega)) U ?_
  refine Ls 1 U<|Lq (A2 U CT U U U U) U<|Ld ?_;refine Cb U (fun g4=>?_) (fun g4=>?_);have h4:=bT g4;refine Ew U ?_;refine Se (Al (Xw.same U (Aa U U) U U U U ?_));refine Lw U ?_;refine Se (Al (Xw.same U (Aa U U) U U U U ?_));refine Lw U ?_;refine Se (Er U ?_);refine Ab ?_;rotate_left;have h4:=bF g4;refine Sk<|Sr ?_;refine Lq (ka (a:=3) (b:=1) U (by omega)) U ?_;refine Lw U<|Dh<|Ew U<|Sq<|Tt U<|Sk<|Sq<|Sb<|Ew U<|Es<|Lv 3 U ?_;refine Lq (kM (k:=4) U (by omega)) U ?_;refine Ls 1 U<|Lq (A2 U CT U U U U) U<|Ld ?_;refine Cb U (fun g5=>?_) (fun g5=>?_);have h5:=bT g5;refine Ew U ?_;refine Se (Al (Xw.same U (Aa U U) U U U U ?_));refine Lw U ?_;refine Se (Al (Xw.same U (Aa U U) U U U U ?_));refine Lw U ?_;refine Se (Er U ?_);refine Ab ?_;rotate_left;have h5:=bF g5;refine Sk<|Sr ?_;refine Lq (ka (a:=4) (b:=1) U (by omega)) U ?_;refine Lw U<|Dh<|Ew U<|Sq<|Tf U<|Sx<|A8 U<|Ew U ?_
  refine Se (Al (Xw.same U (Aa U U) U U U U ?_));refine Lw U ?_;refine Se (Al (Xw.same U (Aa U U) U U U U ?_));refine Lw U ?_;refine Se (Er U ?_);refine Ab ?_;rotate_left
 all_goals (
  (first|rw[show Cp w [100,97,116,97]=true from g1]|rw[show Cp w [100,97,116,97]=false from g1])
  (try (first|rw[show Cp w [108,101,116]=true from g2]|rw[show Cp w [108,101,116]=false from g2]))
  (try (first|rw[show Cp w [105,110]=true from g3]|rw[show Cp w [105,110]=false from g3]))
  (try (first|rw[show Cp w [119,104,101,110]=true from g4]|rw[show Cp w [119,104,101,110]=false from g4]))
  (try (first|rw[show Cp w [116,104,101,110]=true from g5]|rw[show Cp w [116,104,101,110]=false from g5]))
  rfl)
def Aag (w:List UInt8):List AV:=[.str w]
theorem QT (a b:List UInt8) (h:Aag a=Aag b):a=b:=AV.str.inj (List.cons.inj h).1
noncomputable def Kd0:=W7 Kc 164 Aag (fun w=> .bool (isWord w))
noncomputable def Kd:=W7 Kd0 110 Aag (fun w=> .bool (isWord w))
theorem wj {w:List UInt8}:Kd0 164 [.str w]=some (.bool (isWord w)):=An (fun a b h=>by rw[QT a b h]) w
theorem wk {w:List UInt8}:Kd 110 [.str w]=some (.bool (isWord w)):=An (fun a b h=>by rw[QT a b h]) w
def VW (a p:List UInt8):Bool:=decide (p.length<=a.length)&&Cp (a.take p.length) p
theorem pre_to (a p:List UInt8):Cc (EK Kd) 209 [.str a,.str p] S0 (.bool (VW a p)):=by
 refine As U ?_;unfold VW;focus
  refine Ew U<|Es<|Lv 2 U<|AT (fn:=Tryz.f254) (by kernel_rfl) (by kernel_rfl) U U U U U U U U U U U<|Ew U<|Es<|qm U<|Lq (Ac U U U U CT U) U<|qm U<|Lq (Ac U U U U CT U) U<|Lv 2 U ?_;refine Bd U (fun h1=>?_) (fun h1=>?_);refine Lv 2 U<|Lh U U (Ac U U U U CT U)<|Lh U U (Az U CT U U U (Au (by omega)) U ⟨by omega,by omega⟩)<|Lv 1 U<|Lh U U (A2 U CT U U U U)<|Lw U ?_;refine Se (Al (Xw.same U (Aa U U) U U U U ?_));refine Lw U ?_;refine Se (Er U ?_);refine Ab ?_;rotate_left;refine Lw U ?_;refine Se (Al (Xw.same U (Aa U U) U U U U ?_));refine Lw U ?_;refine Se (Er U ?_);refine Ab ?_;rotate_left
 .rw[decide_eq_true (by omega),Nat.sub_zero,List.drop_zero];rfl
 .rw[decide_eq_false (by omega)];rfl
abbrev Str2:=List UInt8×List UInt8
def enc2 (p:Str2):List AV:=[.str p.1,.str p.2]
theorem wm (a b:Str2) (h:enc2 a=enc2 b):a=b:=by
 obtain⟨a,c⟩:=a;obtain⟨b,d⟩:=b;cases h;rfl
noncomputable def Ke:=W7 Kd 209 enc2 (fun p=> .bool (VW p.1 p.2))
theorem wo {a p:List UInt8}:Ke 209 [.str a,.str p]=some (.bool (VW a p)):=An (fun a b h=>by rw[wm a b h]) (a,p)
def ends (w:List UInt8):Nat:=(w.filter fun c=>c==10).length
theorem Vb (w:List UInt8):ends w<=w.length:=List.length_filter_le ..
theorem O6:∀w:List UInt8,mT 10 w=ends w
 | []=>rfl
 |b::l=>by
  unfold mT;rw[O6 l];unfold ends;simp only[List.filter_cons];cases hb:Nat.beq b.toNat 10 with
  |true=>
   have:b=10:=UInt8.toNat_inj.1 (Qb hb);subst this;rfl
  |false=>
   have:(b==10)=false:=by
    rw[beq_eq_false_iff_ne];intro h;subst h;cases hb
   rw[this];rfl
theorem Va {w:List UInt8} {i:Nat} (h:i<w.length):ends (w.take (i+1))=ends (w.take i)+(if(w.getD i 0).toNat=10 then 1 else 0):=by
 unfold ends;rw[List.take_add_one,List.filter_append,Ql];have h1:w[i]?=some w[i]:=Qi h;have h2:w.getD i 0=w[i]:=by rw[List.getD_eq_getElem?_getD,h1];rfl
 rw[h2,h1];simp only[Option.toList];by_cases hc:w[i]=10
 .rw[if_pos (by rw[hc];rfl),hc];rfl
 .rw[if_neg (fun h:w[i].toNat=10=>hc (UInt8.toNat_inj.1 (show w[i].toNat=(10:UInt8).toNat from h))),List.filter_cons_of_neg (by simpa using hc)];rfl
theorem Aah (w:List UInt8) (k:Nat) (hw:w.length<=100000) (hkw:k<=w.length):Cc (EK Ke) 98 [.str w,.int .i64 (k:Nat)] S0 (.int .i64 ((1+ends (w.take k):Nat):Int)):=by
 refine As U ?_;iterate 2 refine Ew U ?_
 refine Sq<|Ew U<|Sb ?_;refine Ai (fun i:Nat=>([(6,.int .i64 (i:Nat)),(5,.int .i64 ((1+ends (w.take i):Nat):Int)),(0,.str w),(1,.int .i64 (k:Nat))],Xj 0 0 [] [])) (fun i=>k-i) (fun i=>i<=k) 0 (Qm _) U (Ah (by repeat' constructor)) fun i hi=>?_;have hel:=Vb (w.take i);rw[List.length_take]at hel;by_cases Co:i<k
 .have hs:=Va (w:=w) (i:=i) (by omega);focus
   refine Sq<|Ew U ?_;refine Cd U (fun h1=>?_) (fun h1=>?_);refine Sk<|Sq<|Sb<|Es<|Lv 2 U ?_;refine Lq (A0 U CT U U (by omega)) U ?_;refine Lw U ?_;refine Cd U (fun h2=>?_) (fun h2=>?_);refine Sr<|qm U ?_;refine Lq (ka (b:=1) U (by omega)) U ?_;refine Lw U<|Sr<|qm U ?_;refine Lq (ka (b:=1) U (by omega)) U ?_;refine Lw U ?_;rotate_left;refine Sk<|Sr<|qm U ?_;refine Lq (ka (b:=1) U (by omega)) U ?_;refine Lw U ?_;rotate_left;exact absurd h1 (by omega)
  .rw[if_pos (by omega)]at hs;exact⟨i+1,Co,by show k-(i+1)<k-i;omega,U,U,by rw[hs];(refine Am.Ah ?_;repeat (first|exact trivial|refine⟨U,?_⟩))⟩
  .rw[if_neg (by omega)]at hs;exact⟨i+1,Co,by show k-(i+1)<k-i;omega,U,U,by rw[hs];(refine Am.Ah ?_;repeat (first|exact trivial|refine⟨U,?_⟩))⟩
 .focus
   refine Sq<|Ew U ?_;refine Cd U (fun h1=>?_) (fun h1=>?_);exact absurd h1 (by omega);refine Sx<|A8 U<|Ew U ?_;refine Se (Er U ?_);rotate_left
  show AV.int .i64 ((1+ends (w.take i):Nat):Int)=_;rw[show i=k by omega]
noncomputable def Kf:=W7 Ke 98 j6 (fun p=> .int .i64 ((1+ends (p.1.1.take p.1.2):Nat):Int))
theorem hq_98 {w:List UInt8} {k:Nat} (hw:w.length<=100000) (hk:k<=w.length):Kf 98 [.str w,.int .i64 (k:Nat)]=some (.int .i64 ((1+ends (w.take k):Nat):Int)):=
 An (enc:=j6) (fun a b h=>by rw[Hc a b h]) ⟨(w,k),hw,hk⟩
theorem wq (w:List UInt8):Cc (EK Kf) 136 [.str w,.str [10]] S0 (.int .i64 (ends w:Nat)):=by
 refine As U ?_;rw[<-O6];refine Ew U<|Sq<|Es<|qm U<|Lq (Ac U U U U CT U) U<|Lw U<|Tf U<|Sk<|Sq<|Es<|qm U<|Lq (Ac U U U U CT U) U<|Lw U<|Tt U<|Es<|Lv 2 U ?_;refine Lq (A0 (n:=0) U CT U U (by first|assumption|omega|(simp only[LL];omega))) U ?_;refine Lq (VM (f:=km) (x:= .tmp 16) (y:= .tmp 18) (by kernel_rfl) U U (Vv _ _)) U<|Lw U ?_;refine Se (Er U ?_);rfl
abbrev encN (w:List UInt8):List AV:=[.str w,.str [10]]
noncomputable def Kg:=W7 Kf 136 encN (fun w=> .int .i64 (ends w:Nat))
theorem hq_136 {w:List UInt8}:Kg 136 [.str w,.str [10]]=some (.int .i64 (ends w:Nat)):=An (fun a b h=>by cases h;rfl) w
theorem allg (h:Wq Tryz.prog 8 [] (.bool true)):Cq Tryz.prog gn Kg:=by
 have a1:Cq Tryz.prog gn Kb:=A3 Ax Aj (alla h) (fun p:qF=>Tp p.1.1 p.1.2 p.2.1 p.2.2) (fun _=>rfl) (fun _=>rfl);have a2:Cq Tryz.prog gn Kc:=A7 a1 fun p:qF=>AP Ax Aj (alla h) (Vr p.1.1 p.1.2 p.2.1 p.2.2) rfl rfl;have a3:Cq Tryz.prog gn Kd0:=A3 Ax Aj a2 wi (fun _=>rfl) (fun _=>rfl);have a4:Cq Tryz.prog gn Kd:=A7 a3 fun w=>AP Ax Aj a2 (Aaf w) rfl rfl;have a5:Cq Tryz.prog gn Ke:=A3 Ax Aj a4 (fun p:Str2=>pre_to p.1 p.2) (fun _=>rfl) (fun _=>rfl);have a6:Cq Tryz.prog gn Kf:=A3 Ax Aj a5 (fun p:qF=>Aah p.1.1 p.1.2 p.2.1 p.2.2) (fun _=>rfl) (fun _=>rfl);exact A3 Ax Aj a6 wq (fun _=>rfl) (fun _=>rfl)
def Zn:List (List UInt8):=[[61,58,61],[61,61],[45,62],[61],[59],[124],[40],[41],[44],[60],[43],[45],[63],[38],[64]]
def eu:List (List UInt8):=[[61,58,61],[61,61],[45,62],[59],[61],[124],[40],[41],[44],[60],[43],[45],[63],[38],[64]]
def XR (p:List UInt8->Bool) (l:List (List UInt8)):Nat:=match l.find? p with
 |some x=>x.length
 |none=>0
theorem GW {α:Type} {p:α->Bool}:∀ {l:List α},l.find? p=l[fW (fun x=> !p x) l]?
 | []=>rfl
 |b::l=>by
  cases hp:p b with
  |true=>simp[fW,List.takeWhile,hp]
  |false=>
   have ih:=GW (p:=p) (l:=l);simp only[List.find?,hp,fW,List.takeWhile,Bool.not_false,List.length_cons,List.getElem?_cons_succ];exact ih
theorem Aai (w:List UInt8) (k:Nat) (hw:w.length<=100000) (hkw:k<=w.length):Cc (EK Kg) 167 [.str w,.int .i64 (k:Nat)] S0 (.int .i64 (XR (fun x=>VW (w.drop k) x) Zn:Nat)):=by
 have hle:=MW (fun x=> !VW (w.drop k) x) Zn;have hld:(w.drop k).length=w.length-k:=List.length_drop;refine As U<|Ew U<|Es<|Lo (Bi 1 U MV HT pU U U U U) U<|Lw U<|Sq<|Ew U<|Sb ?_;obtain⟨sg,hsg⟩:∃l,l=Zn:=⟨_,rfl⟩
 have h15:sg.length=15:=by rw[hsg];rfl
 rw[<-hsg]at hle|-;refine Ai (fun i:Nat=>([(6,.int .i64 (i:Nat)),(5,.slice 0 0 15 1 (some 15)),(0,.str w),(1,.int .i64 (k:Nat))],Xj 1 0 [] [(0,some (.cells (sg.map .str) 9 false))])) (fun i=>15-i) (fun i=>i<=fW (fun x=> !VW (w.drop k) x) sg) 0 (Qm _) (by rw[hsg];rfl) (Ah (by repeat' constructor)) fun i hi=>?_;by_cases Co:i<15
 .have hx:sg[i]?=some (sg.getD i []):=by rw[List.getD_eq_getElem?_getD,Qi (by omega)];rfl
  have WT:=F3 hi hx;have oW:(sg.getD i []).length<=3:=by
   rw[hsg];have:∀x∈Zn,x.length<=3:=by decide
   refine this _ ?_;rw[List.getD_eq_getElem?_getD,Qi (by rw[<-hsg];omega)];exact List.getElem_mem _
  have hL:Wy (EK Kg) 9 (Xj 1 0 [] [(0,some (.cells (sg.map .str) 9 false))]) (.ptr 0 (0+i*(0+1)))=some (.str (sg.getD i [])):=
   AI oi HT (AD 0) (by rw[Nat.zero_add,Nat.zero_add,Nat.mul_one,List.getElem?_map,hx];rfl)
  generalize sg.getD i []=x at*;focus
   refine Sq<|Ew U ?_;refine Cd U (fun h1=>?_) (fun h1=>?_);refine Sk<|Sq<|Sb<|Ag (by kernel_rfl)<|Nv 3 U ?_;refine Nq (kM U (by omega)) U ?_;refine B5 U U hL U (.inl U) U U<|Nq (Ac U U U U CT U) U ?_;refine Nq (ka U (by omega)) U ?_;refine Nv 1 U<|Nq (Ac U U U U CT U) U<|Nv 2 U ?_;refine Dd U (fun h2=>?_) (fun h2=>?_);refine Nv 5 U ?_;refine Nz (kM U (by omega)) U U ?_;refine B5 U U hL U (gG U) U U<|Nz (Ac U U U U CT U) U U ?_;refine Nz (ka U (by omega)) U U ?_;refine Nz (Az U CT U U U (Au (by omega)) (Au (by omega)) ⟨by omega,by omega⟩) U U<|Nv 2 U ?_;refine Nz (kM U (by omega)) U U ?_;refine B5 U U hL U (gG U) U U<|Nz (A2 U CT U U U U) U U<|Nw U ?_;refine Cb U (fun g3=>?_) (fun g3=>?_);have h3:=bT g3;refine Es<|Lv 2 U ?_;refine Lq (kM U (by omega)) U ?_;refine Lo (B9 U U hL) U<|Lq (Ac U U U U CT U) U<|Lw U ?_;refine Se (Er U ?_);rotate_left;have h3:=bF g3;refine Sk<|Sr<|qm U ?_
   refine Lq (ka (b:=1) U (by omega)) U ?_;refine Lw U ?_;rotate_left;refine Nw U<|Tf U<|Sk<|Sr<|qm U ?_;refine Lq (ka (b:=1) U (by omega)) U ?_;refine Lw U ?_;rotate_left;exact absurd h1 (by omega)
  .have e:VW (w.drop k) x=true:=by
    unfold VW;rw[decide_eq_true (by omega),Nat.add_sub_cancel_left]at*;exact g3
   have h4:¬i<fW (fun x=> !VW (w.drop k) x) sg:=fun h=>by have:=WT.2 h;rw[e]at this;cases this
   show AV.int .i64 (x.length:Nat)=_;unfold XR;rw[GW,show fW (fun x=> !VW (w.drop k) x) sg=i by omega,hx]
  .refine⟨i+1,WT.1 ?_,by show 15-(i+1)<15-i;omega,U,U,Ah (by repeat' constructor)⟩;unfold VW;rw[Nat.add_sub_cancel_left]at g3;rw[show Cp ((w.drop k).take x.length) x=false from g3,Bool.and_false];rfl
  .refine⟨i+1,WT.1 ?_,by show 15-(i+1)<15-i;omega,U,U,Ah (by repeat' constructor)⟩;unfold VW;rw[decide_eq_false (by omega)];rfl
 .focus
   refine Sq<|Ew U ?_;refine Cd U (fun h1=>?_) (fun h1=>?_);exact absurd h1 (by omega);refine Sx<|A8 U<|Ew U ?_;refine Se (Er U ?_);rotate_left
  show AV.int .i64 ((0:Nat):Int)=_;unfold XR;rw[GW,show fW (fun x=> !VW (w.drop k) x) sg=sg.length by omega,List.getElem?_eq_none (Qj _)]
theorem wu:Cc (EK Kg) 214 [] S0 (.Cf (eu.map .str) 15 1 true):=by
 refine As U<|Ew U<|Es<|Lo (Bi 1 U MV HT pU U U U U) U<|Lw U ?_;refine Se (Er U ?_);rfl
noncomputable def Kh:=W7 Kg 167 j6 (fun p=> .int .i64 (XR (fun x=>VW (p.1.1.drop p.1.2) x) Zn:Nat))
theorem hq_167 {w:List UInt8} {k:Nat} (hw:w.length<=100000) (hk:k<=w.length):Kh 167 [.str w,.int .i64 (k:Nat)]=some (.int .i64 (XR (fun x=>VW (w.drop k) x) Zn:Nat)):=
 An (enc:=j6) (fun a b h=>by rw[Hc a b h]) ⟨(w,k),hw,hk⟩
noncomputable def Ki:=W7 Kh 214 (fun _:Unit=>[]) (fun _=> .Cf (eu.map .str) 15 1 true)
theorem hq_214:Ki 214 []=some (.Cf (eu.map .str) 15 1 true):=An (fun _ _ _=>rfl) ()
def ew (n:Int):Bool:=decide (n=35)
def Ci:Bool->List UInt8->Nat
 |_,[]=>0
 |false,c::l=>bif CL c.toNat then Ci false l+1 else bif ew c.toNat then Ci true l+1 else 0
 |true,c::l=>bif WG c.toNat then Ci true l+1 else Ci false l+1
theorem Ii:∀(b:Bool) (l:List UInt8),Ci b l<=l.length
 |b,[]=>by cases b<;>exact Qj _
 |false,c::l=>by
  have h1:=Ii false l;have h2:=Ii true l;unfold Ci;simp only[List.length_cons];cases CL c.toNat<;>cases ew c.toNat<;>simp only[cond_true,cond_false]<;>omega
 |true,c::l=>by
  have h1:=Ii false l;have h2:=Ii true l;unfold Ci;simp only[List.length_cons];cases WG c.toNat<;>simp only[cond_true,cond_false]<;>omega
theorem Bv {p:Int->Bool} {c:UInt8} {l:List UInt8} (h:p c.toNat=true):tw p (c::l)=tw p l+1:=by simp[tw,List.takeWhile,h]
theorem Di {p:Int->Bool} {c:UInt8} {l:List UInt8} (h:p c.toNat=false):tw p (c::l)=0:=by simp[tw,List.takeWhile,h]
theorem O9:∀l:List UInt8,Ci false l=tw CL l+Ci false (l.drop (tw CL l))
 | []=>rfl
 |c::l=>by
  cases h:CL c.toNat with
  |true=>
   rw[Bv h,List.drop_succ_cons];have:=O9 l
   conv=>lhs;unfold Ci
   rw[h,cond_true,this];omega
  |false=>rw[Di h,List.drop_zero,Nat.zero_add]
theorem Rf:∀l:List UInt8,Ci true l=tw WG l+Ci false (l.drop (tw WG l))
 | []=>rfl
 |c::l=>by
  cases h:WG c.toNat with
  |true=>
   rw[Bv h,List.drop_succ_cons];have:=Rf l
   conv=>lhs;unfold Ci
   rw[h,cond_true,this];omega
  |false=>
   have hb:CL c.toNat=true:=by
    have:decide ((c.toNat:Int)=10)=true:=by unfold WG at h;revert h;cases decide ((c.toNat:Int)=10)<;>intro h<;>first|rfl|cases h
    unfold CL;rw[this,Bool.or_true]
   rw[Di h,List.drop_zero,Nat.zero_add]
   conv=>lhs;unfold Ci
   conv=>rhs;unfold Ci
   rw[h,hb];rfl
theorem Df {n:Int} (h:ew n=true):WG n=true/\CL n=false:=by
 have:=dT h;subst this;exact⟨U,U⟩
theorem Mg (c:UInt8) (l:List UInt8):VW (c::l) [35]=ew c.toNat:=by
 unfold VW ew;have h1:decide (([35]:List UInt8).length<=(c::l).length)=true:=decide_eq_true (by simp);rw[h1,Bool.true_and];have h2:(c::l).take ([35]:List UInt8).length=[c]:=rfl;rw[h2];show(bif Nat.beq c.toNat 35 then true else false)=_;cases hb:Nat.beq c.toNat 35 with
 |true=>
  have:=Qb hb;rw[decide_eq_true (by omega)];rfl
 |false=>
  have:=Nat.ne_of_beq_eq_false hb;rw[decide_eq_false (by omega)];rfl
theorem wv:∀ {l:List UInt8},VW l [35]=true->Ci false l=tw WG l+Ci false (l.drop (tw WG l))
 | [],h=>by cases h
 |c::l,h=>by
  rw[Mg]at h;have hn:=Df h;rw[Bv hn.1,List.drop_succ_cons];have:=Rf l
  conv=>lhs;unfold Ci
  rw[hn.2,h,cond_false,cond_true,this];omega
theorem wx (l:List UInt8) (h:VW (l.drop (tw CL l)) [35]=false):Ci false (l.drop (tw CL l))=0:=by
 cases hd:l.drop (tw CL l)with
 |nil=>rfl
 |cons c r=>
  rw[hd,Mg]at h;have Co:tw CL l<l.length:=by
   have:=congrArg List.length hd;rw[List.length_drop,List.length_cons]at this;omega
  have WT:=EM (p:=CL) (Qj _) Co;have hc:l.getD (tw CL l) 0=c:=by
   rw[List.getD_eq_getElem?_getD,<-Nat.add_zero (tw CL l),<-List.getElem?_drop,hd];rfl
  rw[hc]at WT;have hb:CL c.toNat=false:=by
   cases hb:CL c.toNat with
   |true=>exact absurd (WT.1 hb) (Nat.lt_irrefl _)
   |false=>rfl
  unfold Ci;rw[hb,h];rfl
theorem Fq {w:List UInt8} {a:Nat} (h:a<w.length):w.drop a=w.getD a 0::w.drop (a+1):=by
 rw[List.drop_eq_getElem_cons h,List.getD_eq_getElem?_getD,Qi h];rfl
theorem Vn (p:Int->Bool) (w:List UInt8) (a:Nat):(w.drop a).drop (tw p (w.drop a))=w.drop (a+tw p (w.drop a)):=by rw[List.drop_drop]
theorem wy (w:List UInt8) (hw:w.length<=100000):Cc (EK Ki) 134 [.str w] S0 (.int .i64 (Ci false w:Nat)):=by
 refine As U ?_;iterate 2 refine Ew U ?_
 refine Sb ?_;refine Ai (fun n:Nat=>([(3,.int .i64 (n:Nat)),(0,.str w)],Xj 0 0 [] [])) (fun n=>w.length-n) (fun n=>n<=w.length/\n+Ci false (w.drop n)=Ci false w) 0 ⟨Qm _,by rw[List.drop_zero];omega⟩ U (Ah (by repeat' constructor)) fun n hn=>?_;obtain⟨hn,hT⟩:=hn;have mi:(w.drop n).length=w.length-n:=List.length_drop;have ht1:=Et CL (w.drop n);have fM:=O9 (w.drop n);have lG:n+tw CL (w.drop n)<=w.length:=by omega
 have zc:∀m,(w.drop m).take (w.length-m)=w.drop m:=fun m=>List.take_of_length_le (by rw[List.length_drop];exact Qj _);have b9:Ki 174 [.str ((w.drop n).take (w.length-n)),.func (.func 208) [] []]=some (.int .i64 (tw CL (w.drop n):Nat)):=by
  rw[zc];exact Gh rfl (by omega)
 have cE:Ki 174 [.str ((w.drop (n+tw CL (w.drop n))).take (w.length-(n+tw CL (w.drop n)))),.func (.func 210) [] []]=some (.int .i64 (tw WG (w.drop (n+tw CL (w.drop n))):Nat)):=by
  rw[zc];exact Gh rfl (by rw[List.length_drop];omega)
 have hit_209:Ki 209 [.str ((w.drop (n+tw CL (w.drop n))).take (w.length-(n+tw CL (w.drop n)))),.str [35]]=some (.bool (VW (w.drop (n+tw CL (w.drop n))) [35])):=by
  rw[zc];exact wo
 have e1:=Vn CL w n;generalize hn1e:n+tw CL (w.drop n)=n1 at*;rw[e1]at fM;refine Sb<|Es<|Lv 3 U<|Lq (Az U CT U U U U (Au (by omega)) ⟨by omega,by omega⟩) U ?_;refine Lo (kc U (b9)) U ?_;refine Lq (ka U (by omega)) U ?_;refine Lw U<|Sq<|Es<|Lv 2 U<|Lq (Az U CT U U U U (Au (by omega)) ⟨by omega,by omega⟩) U ?_;rw[hn1e];have yj:(w.drop n1).length=w.length-n1:=List.length_drop;have ht2:=Et WG (w.drop n1);focus
  refine Lo (kc U (hit_209)) U<|Lw U ?_;refine Cn U (fun h1=>?_) (fun h1=>?_);refine Ew U ?_;refine Se (Er U ?_);rotate_left;refine Sk<|Sr<|Lv 3 U<|Lq (Az U CT U U U U (Au (by omega)) ⟨by omega,by omega⟩) U ?_;refine Lo (kc U (cE)) U ?_;refine Lq (ka U (by omega)) U ?_;refine Lw U ?_;rotate_left
 .have h0:=wx (w.drop n) (by rw[e1];assumption);rw[e1]at h0;show AV.int .i64 (n1:Nat)=_;rw[show n1=Ci false w by omega]
 .have gw:=wv (l:=w.drop n1) h1;rw[Vn WG w n1]at gw;have fP:0<tw WG (w.drop n1):=by
   have kI:VW (w.drop n1) [35]=true:=by assumption
   have Co:n1<w.length:=by
    rcases Nat.lt_or_ge n1 w.length with h|h
    .exact h
    .rw[List.drop_eq_nil_of_le h]at kI;cases kI
   rw[Fq Co,Mg]at kI;rw[Fq Co,Bv (Df kI).1];omega
  skip
  exact⟨n1+tw WG (w.drop n1),⟨by omega,by omega⟩,by show w.length-(n1+tw WG (w.drop n1))<w.length-n;omega,U,U,Ah (by repeat' constructor)⟩
theorem wz {w:List UInt8} {a:Nat} (h:a<w.length):(CL (w.getD a 0).toNat=true->Ci false (w.drop a)=Ci false (w.drop (a+1))+1)/\(CL (w.getD a 0).toNat=false->ew (w.getD a 0).toNat=false->Ci false (w.drop a)=0):=by
 rw[Fq h];constructor
 .intro h1;conv=>lhs;unfold Ci
  rw[h1];rfl
 .intro h1 h2;conv=>lhs;unfold Ci
  rw[h1,h2];rfl
theorem w7 {w:List UInt8} {a:Nat} (h:a<w.length):(ew (w.getD a 0).toNat=true->Ci false (w.drop a)=Ci true (w.drop a))/\(WG (w.getD a 0).toNat=true->Ci true (w.drop a)=Ci true (w.drop (a+1))+1)/\(WG (w.getD a 0).toNat=false->Ci true (w.drop a)=Ci false (w.drop a)):=by
 rw[Fq h];refine⟨fun h1=>?_,fun h1=>?_,fun h1=>?_⟩
 .unfold Ci;rw[(Df h1).2,h1,(Df h1).1];rfl
 .conv=>lhs;unfold Ci
  rw[h1];rfl
 .have:CL (w.getD a 0).toNat=true:=by
   have:decide (((w.getD a 0).toNat:Int)=10)=true:=by unfold WG at h1;revert h1;cases decide (((w.getD a 0).toNat:Int)=10)<;>intro h<;>first|rfl|cases h
   unfold CL;rw[this,Bool.or_true]
  unfold Ci;rw[h1,this];rfl
theorem QD {n:Int} (h:n=32\/n=10):CL n=true:=by
 rcases h with rfl|rfl<;>rfl
theorem Uc {n:Int} (h:¬n=32) (h2:¬n=10):CL n=false:=by
 unfold CL;rw[decide_eq_false h,decide_eq_false h2];rfl
theorem TD (w:List UInt8) (k:Nat) (hw:w.length<=100000) (hk:k<=w.length):Cc (EK Ki) 96 [.str w,.int .i64 (k:Nat)] S0 (.int .i64 ((k+Ci false (w.drop k):Nat):Int)):=by
 refine As U<|Ew U<|Sq<|Sb ?_;refine Ai (fun a:Nat=>([(1,.int .i64 (a:Nat)),(0,.str w)],Xj 0 0 [] [])) (fun a=>w.length-a) (fun a=>a<=w.length/\a+Ci false (w.drop a)=k+Ci false (w.drop k)) k ⟨hk,rfl⟩ U (Ah (by repeat' constructor)) fun a ha=>?_;obtain⟨ha,hT⟩:=ha;by_cases Co:a<w.length
 .have hs:=wz Co;have hi:=w7 Co;have yes:CL (w.getD a 0).toNat=true->a+1+Ci false (w.drop (a+1))=k+Ci false (w.drop k):=fun h=>by have:=hs.1 h;omega
  focus
   refine Sq<|Es<|Lv 2 U<|Lq (Ac U U U U CT U) U<|Lv 2 U ?_;refine Bd U (fun h1=>?_) (fun h1=>?_);refine Lv 2 U ?_;refine Lh U U (A0 U CT U U (by omega)) ?_;refine Lv 2 U ?_;refine Bd U (fun h2=>?_) (fun h2=>?_);refine Lw U<|Tt U<|Sk<|Sb<|Es<|Lv 2 U ?_;refine Lq (A0 U CT U U (by omega)) U ?_;refine Lw U ?_;refine Cd U (fun h3=>?_) (fun h3=>?_);exact absurd h3 (by omega);refine Sr<|qm U ?_;refine Lq (ka (b:=1) U (by omega)) U ?_;refine Lw U ?_;rotate_left;refine Lv 2 U ?_;refine Lh U U (A0 U CT U U (by omega)) ?_;refine Lv 3 U ?_;refine Bd U (fun h4=>?_) (fun h4=>?_);refine Lw U<|Tt U<|Sk<|Sb<|Es<|Lv 2 U ?_;refine Lq (A0 U CT U U (by omega)) U ?_;refine Lw U ?_;refine Cd U (fun h5=>?_) (fun h5=>?_);exact absurd h5 (by omega);refine Sr<|qm U ?_;refine Lq (ka (b:=1) U (by omega)) U ?_;refine Lw U ?_;rotate_left;refine Lv 2 U ?_;refine Lh U U (A0 U CT U U (by omega)) ?_;refine Lw U ?_
   refine Cb U (fun g6=>?_) (fun g6=>?_);have h6:=dT g6;refine Ho<|Cz.block<|Es<|Lv 2 U ?_;refine Lq (A0 U CT U U (by omega)) U ?_;refine Lw U<|HO U g6<|Sb ?_;rotate_left;have h6:=dF g6;refine Sx<|A8 U<|Ew U ?_;refine Se (Er U ?_);rotate_left;exact absurd h1 (by omega)
  .exact⟨a+1,⟨Co,yes (QD (.inl h2))⟩,by show w.length-(a+1)<w.length-a;omega,U,U,Ah (by repeat' constructor)⟩
  .exact⟨a+1,⟨Co,yes (QD (.inr h4))⟩,by show w.length-(a+1)<w.length-a;omega,U,U,Ah (by repeat' constructor)⟩
  .have hh:ew (w.getD a 0).toNat=true:=decide_eq_true h6;refine Ai (fun j:Nat=>([(1,.int .i64 (j:Nat)),(0,.str w)],Xj 0 0 [] [])) (fun j=>w.length-j) (fun j=>a<=j/\j<=w.length/\j+Ci true (w.drop j)=k+Ci false (w.drop k)) a ⟨Qj _,ha,by rw[<-hT,hi.1 hh]⟩ U (Ah (by repeat' constructor)) fun j hj=>?_;obtain⟨hj0,hj,hjT⟩:=hj;by_cases hlj:j<w.length
   .have hij:=w7 hlj;focus
     refine Sq<|Es<|Lv 2 U<|Lq (Ac U U U U CT U) U<|Lv 2 U ?_;refine Bd U (fun h7=>?_) (fun h7=>?_);refine Lv 2 U ?_;refine Lh U U (A0 U CT U U (by omega)) ?_;refine Lw U ?_;refine Ce U (fun h8=>?_) (fun h8=>?_);refine Sk<|Sb<|Sr<|qm U ?_;refine Lq (ka (b:=1) U (by omega)) U ?_;refine Lw U ?_;rotate_left;refine Sx<|A8 U ?_;rotate_left;exact absurd h7 (by omega)
    .have:=hij.2.1 (by unfold WG;rw[decide_eq_false h8];rfl);exact⟨j+1,⟨by omega,hlj,by omega⟩,by show w.length-(j+1)<w.length-j;omega,U,U,Ah (by repeat' constructor)⟩
    .have hn:WG (w.getD j 0).toNat=false:=by unfold WG;rw[decide_eq_true h8];rfl
     have YM:j≠a:=fun h=>by rw[h,(Df hh).1]at hn;cases hn
     have:=hij.2.2 hn;exact⟨j,⟨hj,by omega⟩,by show w.length-j<w.length-a;omega,U,U,Ah (by repeat' constructor)⟩
   .focus
     refine Sq<|Es<|Lv 2 U<|Lq (Ac U U U U CT U) U<|Lv 2 U ?_;refine Bd U (fun h7=>?_) (fun h7=>?_);exact absurd h7 (by omega);refine Lw U<|Tf U<|Sx<|A8 U ?_;rotate_left
    have he:j=w.length:=by omega
    refine⟨j,⟨hj,?_⟩,by show w.length-j<w.length-a;omega,U,U,Ah (by repeat' constructor)⟩;rw[<-hjT,he,List.drop_length];rfl
  .have:=hs.2 (Uc h2 h4) (decide_eq_false h6);show AV.int .i64 (a:Nat)=_;rw[show a=k+Ci false (w.drop k) by omega]
 .focus
   refine Sq<|Es<|Lv 2 U<|Lq (Ac U U U U CT U) U<|Lv 2 U ?_;refine Bd U (fun h1=>?_) (fun h1=>?_);exact absurd h1 (by omega);refine Lw U<|Tf U<|Sx<|A8 U<|Ew U ?_;refine Se (Er U ?_);rotate_left
  have h0:Ci false (w.drop a)=0:=by rw[show a=w.length by omega,List.drop_length];rfl
  show AV.int .i64 (a:Nat)=_;rw[show a=k+Ci false (w.drop k) by omega]
abbrev ZY (w:Str):List AV:=[.str w.1]
theorem Ea (a b:Str) (h:ZY a=ZY b):a=b:=Subtype.ext (AV.str.inj (List.cons.inj h).1)
noncomputable def Kj:=W7 Ki 134 ZY (fun w=> .int .i64 (Ci false w.1:Nat))
theorem w8 {w:List UInt8} (hw:w.length<=100000):Kj 134 [.str w]=some (.int .i64 (Ci false w:Nat)):=
 An (enc:=ZY) (fun a b h=>by rw[Ea a b h]) ⟨w,hw⟩
noncomputable def Kk:=W7 Kj 96 j6 (fun p=> .int .i64 ((p.1.2+Ci false (p.1.1.drop p.1.2):Nat):Int))
theorem hq_96 {w:List UInt8} {k:Nat} (hw:w.length<=100000) (hk:k<=w.length):Kk 96 [.str w,.int .i64 (k:Nat)]=some (.int .i64 ((k+Ci false (w.drop k):Nat):Int)):=
 An (enc:=j6) (fun a b h=>by rw[Hc a b h]) ⟨(w,k),hw,hk⟩
theorem allk (h:Wq Tryz.prog 8 [] (.bool true)):Cq Tryz.prog gn Kk:=by
 have a1:Cq Tryz.prog gn Kh:=A3 Ax Aj (allg h) (fun p:qF=>Aai p.1.1 p.1.2 p.2.1 p.2.2) (fun _=>rfl) (fun _=>rfl);have a2:Cq Tryz.prog gn Ki:=A7 a1 fun _=>AP Ax Aj (allg h) wu rfl rfl;have a3:Cq Tryz.prog gn Kj:=A3 Ax Aj a2 (fun w:Str=>wy w.1 w.2) (fun _=>rfl) (fun _=>rfl);exact A7 a3 fun p:qF=>AP Ax Aj a2 (TD p.1.1 p.1.2 p.2.1 p.2.2) U U
def XW (r:List UInt8):Nat×Nat:=
 if C5 97 122 (r.getD 0 0).toNat=true then
  if isWord (r.take (tw (C5 97 122) r))=true then(3,tw (C5 97 122) r)else if 8<tw (C5 97 122) r then(0,0)else(1,tw (C5 97 122) r)
 else if C5 65 90 (r.getD 0 0).toNat=true then
  if 8<1+tw (C5 97 122) (r.drop 1)then(0,0)else(2,1+tw (C5 97 122) (r.drop 1))
 else if 0<tw (C5 48 57) r then
  if 7<tw (C5 48 57) r\/(1<tw (C5 48 57) r/\(r.getD 0 0).toNat=48)then(0,0)else(4,tw (C5 48 57) r)
 else if(r.getD 0 0).toNat=126 then
  if tw (C5 48 57) (r.drop 1)<1\/7<tw (C5 48 57) (r.drop 1)\/(r.getD 1 0).toNat=48 then(0,0)else(4,1+tw (C5 48 57) (r.drop 1))
 else if 0<XR (fun x=>VW r x) Zn then(5,XR (fun x=>VW r x) Zn)else(0,0)
def pX (r:List UInt8):AV:= .tuple [.int .i64 ((XW r).1:Nat),.int .i64 ((XW r).2:Nat)]
theorem w9 (r:List UInt8):XR (fun x=>VW r x) Zn<=3:=by
 unfold XR;split
 .next x hx=>
  have:∀x∈Zn,x.length<=3:=by decide
  exact this _ (List.mem_of_find?_eq_some hx)
 .exact Qm _
theorem one_to (w:List UInt8) (k:Nat) (hw:w.length<=100000) (hk:k<w.length):Cc (EK Kk) 97 [.str w,.int .i64 (k:Nat)] S0 (pX (w.drop k)):=by
 have e0:(w.drop k).getD 0 0=w.getD k 0:=Fe w k 0;have e1:(w.drop k).getD 1 0=w.getD (k+1) 0:=Fe w k 1;have ed:(w.drop k).drop 1=w.drop (k+1):=List.drop_drop ..;have hlr:(w.drop k).length=w.length-k:=List.length_drop;have hls:(w.drop (k+1)).length=w.length-(k+1):=List.length_drop;have ts:=Et (C5 97 122) (w.drop k);have td:=Et (C5 48 57) (w.drop k);have ts1:=Et (C5 97 122) (w.drop (k+1));have td1:=Et (C5 48 57) (w.drop (k+1));have hf:=w9 (w.drop k);have l4:k<=w.length:=Nat.le_of_lt hk;have tv:k+1<=w.length:=hk;refine As U ?_;unfold pX XW;rw[e0,e1,ed];generalize hS:tw (C5 97 122) (w.drop k)=S at*;generalize hD:tw (C5 48 57) (w.drop k)=D at*;generalize hS1:tw (C5 97 122) (w.drop (k+1))=S1 at*;generalize hD1:tw (C5 48 57) (w.drop (k+1))=D1 at*;generalize hF:XR (fun x=>VW (w.drop k) x) Zn=F at*
 have Xu:Kk 163 [.str w,.int .i64 (k:Nat)]=some (.int .i64 (S:Nat)):=by rw[<-hS];exact QF hw l4
 have Xe:Kk 163 [.str w,.int .i64 ((k+1:Nat):Int)]=some (.int .i64 (S1:Nat)):=by rw[<-hS1];exact QF hw tv
 have XI:Kk 166 [.str w,.int .i64 (k:Nat)]=some (.int .i64 (D:Nat)):=by rw[<-hD];exact wh hw l4
 have Xf:Kk 166 [.str w,.int .i64 ((k+1:Nat):Int)]=some (.int .i64 (D1:Nat)):=by rw[<-hD1];exact wh hw tv
 have XJ:Kk 167 [.str w,.int .i64 (k:Nat)]=some (.int .i64 (F:Nat)):=by rw[<-hF];exact hq_167 hw l4
 have Xv:Kk 164 [.str ((w.drop k).take (k+S-k))]=some (.bool (isWord ((w.drop k).take S))):=by rw[Nat.add_sub_cancel_left];exact wj
 generalize w.getD k 0=c at*;generalize w.getD (k+1) 0=c1 at*;generalize isWord ((w.drop k).take S)=W at*;have key:∀ {x:Nat×Nat} (y:Nat×Nat),x=y->AV.tuple [.int .i64 (y.1:Nat),.int .i64 (y.2:Nat)]=AV.tuple [.int .i64 (x.1:Nat),.int .i64 (x.2:Nat)]:=fun y h=>by rw[h]
 focus
  refine Ew U<|Sq<|Es<|Lv 2 U ?_;refine Lq (A0 U CT U U (by omega)) U ?_;refine Lo (kc U (UF)) U<|Ld ?_;refine Cb U (fun g1=>?_) (fun g1=>?_);refine Es<|Lv 2 U ?_;refine Lo (kc U (Xu)) U<|Lw U<|Sq<|Es<|Lv 4 U ?_;refine Lq (ka U (by omega)) U ?_;refine Lq (Az U CT U U U (Au (by omega)) (Au (by omega)) ⟨by omega,by omega⟩) U ?_;refine Lo (kc U (Xv)) U<|Ld ?_;refine Cb U (fun g2=>?_) (fun g2=>?_);refine Ew U ?_;refine Se ⟨.inl U,U,U,U,_,_,_,(Aa U (Aa U U)),U,U,?_⟩;rotate_left;refine Sk<|Sq<|Ew U ?_;refine Cd U (fun h3=>?_) (fun h3=>?_);refine Ew U ?_;refine Se ⟨.inl U,U,U,U,_,_,_,(Aa U (Aa U U)),U,U,?_⟩;rotate_left;refine Sk<|Ew U ?_;refine Se ⟨.inl U,U,U,U,_,_,_,(Aa U (Aa U U)),U,U,?_⟩;rotate_left;refine Sk<|Sq<|Es<|Lv 2 U ?_;refine Lq (A0 U CT U U (by omega)) U ?_;refine Lo (kc U (UE)) U<|Ld ?_;refine Cb U (fun g4=>?_) (fun g4=>?_);refine Es<|Lv 2 U ?_
  refine Lq (ka (b:=1) U (by omega)) U ?_;refine Lo (kc U (Xe)) U ?_;refine Lq (ka (a:=1) U (by omega)) U ?_;refine Lw U<|Sq<|Ew U ?_;refine Cd U (fun h5=>?_) (fun h5=>?_);refine Ew U ?_;refine Se ⟨.inl U,U,U,U,_,_,_,(Aa U (Aa U U)),U,U,?_⟩;rotate_left;refine Sk<|Ew U ?_;refine Se ⟨.inl U,U,U,U,_,_,_,(Aa U (Aa U U)),U,U,?_⟩;rotate_left;refine Sk<|Sq<|Es<|Lv 2 U ?_;refine Lo (kc U (XI)) U<|Lw U<|Ew U ?_;refine Cd U (fun h6=>?_) (fun h6=>?_);refine Sq<|Es<|Lv 3 U ?_;refine Bd U (fun h7=>?_) (fun h7=>?_);refine Lw U<|Tt U<|Ew U ?_;refine Se ⟨.inl U,U,U,U,_,_,_,(Aa U (Aa U U)),U,U,?_⟩;rotate_left;refine Lv 3 U ?_;refine Bd U (fun h8=>?_) (fun h8=>?_);refine Lv 2 U ?_;refine Lh U U (A0 U CT U U (by omega)) ?_;refine Lw U ?_;refine Cd U (fun h9=>?_) (fun h9=>?_);refine Ew U ?_;refine Se ⟨.inl U,U,U,U,_,_,_,(Aa U (Aa U U)),U,U,?_⟩;rotate_left;refine Sk<|Ew U ?_
  refine Se ⟨.inl U,U,U,U,_,_,_,(Aa U (Aa U U)),U,U,?_⟩;rotate_left;refine Lw U<|Tf U<|Sk<|Ew U ?_;refine Se ⟨.inl U,U,U,U,_,_,_,(Aa U (Aa U U)),U,U,?_⟩;rotate_left;refine Sk<|Sq<|Es<|Lv 2 U ?_;refine Lq (A0 U CT U U (by omega)) U ?_;refine Lw U ?_;refine Cd U (fun yn=>?_) (fun yn=>?_);refine Es<|Lv 2 U ?_;refine Lq (ka (b:=1) U (by omega)) U ?_;refine Lo (kc U (Xf)) U<|Lw U<|Sq<|Es<|Lv 3 U ?_;refine Bd U (fun h11=>?_) (fun h11=>?_);refine Lw U<|Tt U<|Ew U ?_;refine Se ⟨.inl U,U,U,U,_,_,_,(Aa U (Aa U U)),U,U,?_⟩;rotate_left;refine Lv 4 U ?_;refine Bd U (fun h12=>?_) (fun h12=>?_);refine Lw U<|Tt U<|Ew U ?_;refine Se ⟨.inl U,U,U,U,_,_,_,(Aa U (Aa U U)),U,U,?_⟩;rotate_left;refine Lv 2 U ?_;refine Lh U U (ka (b:=1) U (by omega)) ?_;refine Lh U U (A0 U CT U U (by omega)) ?_;refine Lw U ?_;refine Cd U (fun h13=>?_) (fun h13=>?_);refine Ew U ?_
  refine Se ⟨.inl U,U,U,U,_,_,_,(Aa U (Aa U U)),U,U,?_⟩;rotate_left;refine Sk<|Es<|qm U ?_;refine Lq (ka (a:=1) U (by omega)) U ?_;refine Lw U ?_;refine Se ⟨.inl U,U,U,U,_,_,_,(Aa U (Aa U U)),U,U,?_⟩;rotate_left;refine Sk<|Sq<|Es<|Lv 2 U ?_;refine Lo (kc U (XJ)) U<|Lw U<|Ew U ?_;refine Cd U (fun h14=>?_) (fun h14=>?_);refine Ew U ?_;refine Se ⟨.inl U,U,U,U,_,_,_,(Aa U (Aa U U)),U,U,?_⟩;rotate_left;refine Sk<|Ew U ?_;refine Se ⟨.inl U,U,U,U,_,_,_,(Aa U (Aa U U)),U,U,?_⟩;rotate_left
 .refine key (3,S) ?_;clear key Xu Xe XI Xf XJ Xv
  grind
 .refine key (0,0) ?_;clear key Xu Xe XI Xf XJ Xv
  grind
 .refine key (1,S) ?_;clear key Xu Xe XI Xf XJ Xv
  grind
 .refine key (0,0) ?_;clear key Xu Xe XI Xf XJ Xv
  grind
 .refine key (2,1+S1) ?_;clear key Xu Xe XI Xf XJ Xv
  grind
 .refine key (0,0) ?_;clear key Xu Xe XI Xf XJ Xv
  grind
 .refine key (0,0) ?_;clear key Xu Xe XI Xf XJ Xv
  grind
 .refine key (4,D) ?_;clear key Xu Xe XI Xf XJ Xv
  grind
 .refine key (4,D) ?_;clear key Xu Xe XI Xf XJ Xv
  grind
 .refine key (0,0) ?_;clear key Xu Xe XI Xf XJ Xv
  grind
 .refine key (0,0) ?_;clear key Xu Xe XI Xf XJ Xv
  grind
 .refine key (0,0) ?_;clear key Xu Xe XI Xf XJ Xv
  grind
 .refine key (4,1+D1) ?_;clear key Xu Xe XI Xf XJ Xv
  grind
 .refine key (5,F) ?_;clear key Xu Xe XI Xf XJ Xv
  grind
 .refine key (0,0) ?_;clear key Xu Xe XI Xf XJ Xv
  grind
abbrev StrJ:= {p:List UInt8×Nat//p.1.length<=100000/\p.2<p.1.length}
def encJ (p:StrJ):List AV:=[.str p.1.1,.int .i64 (p.1.2:Nat)]
theorem wD (a b:StrJ) (h:encJ a=encJ b):a=b:=by
 obtain⟨⟨a,i⟩,_⟩:=a;obtain⟨⟨b,j⟩,_⟩:=b;have h1:=AV.str.inj (List.cons.inj h).1;have h2:=(AV.int.inj (List.cons.inj (List.cons.inj h).2).1).2;dsimp only at h1 h2;obtain rfl:=h1;obtain rfl:=Int.ofNat.inj h2;rfl
noncomputable def Kl:=W7 Kk 97 encJ (fun p=>pX (p.1.1.drop p.1.2))
theorem hq_97 {w:List UInt8} {k:Nat} (hw:w.length<=100000) (hk:k<w.length):Kl 97 [.str w,.int .i64 (k:Nat)]=some (pX (w.drop k)):=
 An (enc:=encJ) (fun a b h=>by rw[wD a b h]) ⟨(w,k),hw,hk⟩
def je (kd:Int) (text:List UInt8) (ok:Bool):AV:= .tuple [.agg [.int .i64 kd,.str text,.int .i64 0,.int .i64 0],.bool ok]
def Zo (w:List UInt8):Nat×Nat×Bool:=
 if C5 65 90 (w.getD 0 0).toNat=true then(2,1+tw (C5 97 122) (w.drop 1),decide (1+tw (C5 97 122) (w.drop 1)<=8))
 else if isWord (w.take (tw (C5 97 122) w))=true then(3,tw (C5 97 122) w,true)
 else(1,tw (C5 97 122) w,decide (tw (C5 97 122) w<=8))
def ey (w:List UInt8):AV:=je ((Zo w).1:Nat) (w.take (Zo w).2.1) (Zo w).2.2
theorem Sf (w:List UInt8) (hw:w.length<=100000) (h0:0<w.length):Cc (EK Kl) 211 [.str w] S0 (ey w):=by
 have ts:=Et (C5 97 122) w;have ts1:=Et (C5 97 122) (w.drop 1);have hls:(w.drop 1).length=w.length-1:=List.length_drop;refine As U ?_;unfold ey Zo;generalize hS:tw (C5 97 122) w=S at*;generalize hS1:tw (C5 97 122) (w.drop 1)=S1 at*;have b9:Kl 174 [.str w,.func (.func 90) [] []]=some (.int .i64 (S:Nat)):=by rw[<-hS];exact Gh rfl hw
 have cE:Kl 174 [.str ((w.drop 1).take (w.length-1)),.func (.func 90) [] []]=some (.int .i64 (S1:Nat)):=by
  rw[List.take_of_length_le (by omega),<-hS1];exact Gh rfl (by omega)
 have e1:(w.take S).length=S:=by rw[List.length_take];omega
 have e2:(w.take (1+S1)).length=1+S1:=by rw[List.length_take];omega
 have key:∀ {k n:Nat} {b:Bool} {x:Nat×Nat×Bool},x=(k,n,b)->je (k:Nat) (w.take n) b=je (x.1:Nat) (w.take x.2.1) x.2.2:=fun h=>by rw[h]
 focus
  refine Eh U<|Sq<|Es<|qm U ?_;refine Lq (A0 (n:=0) U CT U U (by omega)) U ?_;refine Lo (kc U (P0)) U<|Ld ?_;refine Cb U (fun g1=>?_) (fun g1=>?_);refine Es<|Lv 2 U<|Lq (Az U CT U U U U (Au (n:=1) (by omega)) ⟨by omega,by omega⟩) U ?_;refine Lo (kc U (cE)) U ?_;refine Lq (ka (a:=1) U (by omega)) U ?_;refine Lq (Az U CT U U U (Au (by omega)) U ⟨by omega,by omega⟩) U<|Lw U<|Es<|Lv 3 U<|Lq (Ac U U U U CT U) U<|Lx U ?_;refine Se ⟨.inl U,U,U,U,_,_,_,(AJ U BV Bw U (Qc U) (Aa U U)),U,U,?_⟩;rotate_left;refine Sk<|Es<|Lv 2 U ?_;refine Lo (kc U (b9)) U<|Lq (Az U CT U U U (Au (by omega)) U ⟨by omega,by omega⟩) U<|Lw U<|Sq<|Es<|qm U ?_;refine Lo (kc U (wk)) U<|Ld ?_;refine Cb U (fun g2=>?_) (fun g2=>?_);refine Eh U ?_;refine Se ⟨.inl U,U,U,U,_,_,_,(AJ U BV Bw U (Qc U) (Aa U U)),U,U,?_⟩;rotate_left;refine Sk<|Es<|Lv 3 U<|Lq (Ac U U U U CT U) U<|Lx U ?_
  refine Se ⟨.inl U,U,U,U,_,_,_,(AJ U BV Bw U (Qc U) (Aa U U)),U,U,?_⟩;rotate_left
 .show je (2:Nat) ((w.drop 0).take (1+S1-0)) (decide ((((w.drop 0).take (1+S1-0)).length:Int)<=8))=_;rw[List.drop_zero,Nat.sub_zero,e2,show decide (((1+S1:Nat):Int)<=8)=decide (1+S1<=8)from decide_eq_decide.2 (by omega)];exact key (if_pos g1)
 .rw[List.drop_zero,Nat.sub_zero]at*;exact key (by grind)
 .show je (1:Nat) ((w.drop 0).take (S-0)) (decide ((((w.drop 0).take (S-0)).length:Int)<=8))=_;rw[List.drop_zero,Nat.sub_zero]at*;rw[e1,show decide (((S:Nat):Int)<=8)=decide (S<=8)from decide_eq_decide.2 (by omega)];exact key (by grind)
def Zp (f d:Nat) (c:Nat):Bool:=decide (d=0)||decide (7<d)||(decide (c=48)&&decide (1<d+f))
def WW (w:List UInt8):Nat:=tw fb (w.take 1)
def Yo (w:List UInt8):Nat:=tw (C5 48 57) (w.drop (WW w))
def Zq (w:List UInt8):Nat×Nat×Bool:=
 if Zp (WW w) (Yo w) (w.getD (WW w) 0).toNat=true then(0,0,false)else(4,WW w+Yo w,true)
def ez (w:List UInt8):AV:=je ((Zq w).1:Nat) (w.take (Zq w).2.1) (Zq w).2.2
theorem PG (l:List UInt8):Cp l []=decide (l.length=0):=by cases l<;>rfl
theorem Sm (w:List UInt8) (hw:w.length<=100000) (h0:0<w.length):Cc (EK Kl) 213 [.str w] S0 (ez w):=by
 have hm:WW w<=1:=by have:=Et fb (w.take 1);rw[List.length_take]at this;unfold WW;omega
 have hd:Yo w<=w.length-WW w:=by have:=Et (C5 48 57) (w.drop (WW w));rw[List.length_drop]at this;exact this
 refine As U ?_;unfold ez Zq;have b9:Kl 174 [.str ((w.drop 0).take (1-0)),.func (.func 255) [] []]=some (.int .i64 (WW w:Nat)):=by
  rw[List.drop_zero];exact Gh rfl (by rw[List.length_take];omega)
 have cE:Kl 174 [.str ((w.drop (WW w)).take (w.length-WW w)),.func (.func 212) [] []]=some (.int .i64 (Yo w:Nat)):=by
  rw[List.take_of_length_le (by rw[List.length_drop];exact Qj _)];exact Gh rfl (by rw[List.length_drop];omega)
 have sx:0<Yo w->((w.drop (WW w)).take (WW w+Yo w-WW w)).getD 0 0=w.getD (WW w) 0:=fun h=>by
  rw[Nat.add_sub_cancel_left,List.getD_eq_getElem?_getD,List.getElem?_take_of_lt h,<-List.getD_eq_getElem?_getD,Fe,Nat.add_zero]
 have oW:((w.drop (WW w)).take (WW w+Yo w-WW w)).length=Yo w:=by rw[List.length_take,List.length_drop];omega
 have eb:=PG ((w.drop (WW w)).take (WW w+Yo w-WW w));rw[oW]at eb;generalize WW w=m at*;generalize Yo w=d at*;have key:∀ {k n:Nat} {b:Bool} {x:Nat×Nat×Bool},x=(k,n,b)->je (k:Nat) (w.take n) b=je (x.1:Nat) (w.take x.2.1) x.2.2:=fun h=>by rw[h]
 by_cases qV:d=0
 .subst qV;focus
   refine Eh U<|Es<|qm U<|Lq (Az U CT U U U (Au (n:=1) (by omega)) U ⟨by omega,by omega⟩) U ?_;refine Lo (kc U (b9)) U<|Lw U<|Es<|Lv 5 U<|Lq (Az U CT U U U U (Au (by omega)) ⟨by omega,by omega⟩) U ?_;refine Lo (kc U (cE)) U ?_;refine Lq (ka (b:=0) U (by omega)) U ?_;refine Lq (Az U CT U U U (Au (by omega)) (Au (by omega)) ⟨by omega,by omega⟩) U<|Lw U<|Sq<|Es<|qm U<|Lq (A2 U CT U U U U) U<|qm U ?_;refine Lb U (fun g1=>?_) (fun g1=>?_);have h1:=bT g1;iterate 3 refine Lk U g1 ?_
   refine Lq (oT U g1 U) U<|Lw U<|Tt U<|Eh U ?_;refine Se ⟨.inl U,U,U,U,_,_,_,(AJ U BV Bw U (Qc U) (Aa U U)),U,U,?_⟩;rotate_left;have h1:=bF g1;refine Lh U g1 (kq U)<|Lh U g1 (Ac U U U U CT U)<|Lh U g1 (kq U)<|Lq (oT U eb U) U<|Lw U<|Tt U<|Eh U ?_;refine Se ⟨.inl U,U,U,U,_,_,_,(AJ U BV Bw U (Qc U) (Aa U U)),U,U,?_⟩;rotate_left
  .exact key (n:=0) (if_pos (by unfold Zp;rfl))
  .exact absurd (g1.symm.trans eb) (by decide)
 have fP:0<((w.drop m).take (m+d-m)).length:=by omega
 have hx1:=sx (by omega);have bad:(7<d\/(w.getD m 0).toNat=48/\1<d+m)->(0,0,false)=if Zp m d (w.getD m 0).toNat=true then(0,0,false)else(4,m+d,true):=fun h=>by
  unfold Zp
  grind
 have ok:¬7<d->¬((w.getD m 0).toNat=48/\1<d+m)->(if Zp m d (w.getD m 0).toNat=true then(0,0,false)else(4,m+d,true))=(4,m+d,true):=fun h h2=>by
  unfold Zp
  grind
 focus
  refine Eh U<|Es<|qm U<|Lq (Az U CT U U U (Au (n:=1) (by omega)) U ⟨by omega,by omega⟩) U ?_;refine Lo (kc U (b9)) U<|Lw U<|Es<|Lv 5 U<|Lq (Az U CT U U U U (Au (by omega)) ⟨by omega,by omega⟩) U ?_;refine Lo (kc U (cE)) U ?_;refine Lq (ka U (by omega)) U ?_;refine Lq (Az U CT U U U (Au (by omega)) (Au (by omega)) ⟨by omega,by omega⟩) U<|Lw U<|Sq<|Es<|qm U<|Lq (A2 U CT U U U U) U<|qm U ?_;refine Lb U (fun g1=>?_) (fun g1=>?_);have h1:=bT g1;iterate 3 refine Lk U g1 ?_
  refine Lq (oT U g1 U) U<|Lw U<|Tt U<|Eh U ?_;refine Se ⟨.inl U,U,U,U,_,_,_,(AJ U BV Bw U (Qc U) (Aa U U)),U,U,?_⟩;rotate_left;have h1:=bF g1;refine Lh U g1 (kq U)<|Lh U g1 (Ac U U U U CT U)<|Lh U g1 (kq U)<|Lq (oF U g1 U) U<|qm U ?_;refine Lb U (fun g2=>?_) (fun g2=>?_);have h2:=dT g2;iterate 4 refine Lk U g2 ?_
  refine Lv 5 U<|Lk U g2<|Lq (oT U g2 U) U<|Ld<|Tt U<|Eh U ?_;refine Se ⟨.inl U,U,U,U,_,_,_,(AJ U BV Bw U (Qc U) (Aa U U)),U,U,?_⟩;rotate_left;have h2:=dF g2;refine Lh U g2 (kq U) ?_;refine Lh U g2 (A0 (n:=0) U CT U U (by omega)) ?_;iterate 2 refine Lh U g2 (kq U) ?_
  refine Lb U (fun g3=>?_) (fun g3=>?_);have h3:=dT g3;refine Lh U g3 (kq U)<|Lh U g3 (Ac U U U U CT U)<|Lh U g3 (kq U) ?_;refine Lh U g3 (ka U (by omega)) ?_;refine Lh U g3 (kq U)<|Lh U g2 (oT U g3 U)<|Lq (oF U g2 U) U<|Ld ?_;refine Ec U (fun g4=>?_) (fun g4=>?_);have h4:=dT g4;refine Eh U ?_;refine Se ⟨.inl U,U,U,U,_,_,_,(AJ U BV Bw U (Qc U) (Aa U U)),U,U,?_⟩;rotate_left;have h4:=dF g4;refine Sk<|Es<|Lv 3 U<|Lq (Ac U U U U CT U) U ?_;refine Lq (ka U (by omega)) U ?_;refine Lq (Az U CT U U U (Au (by omega)) U ⟨by omega,by omega⟩) U<|Lx U ?_;refine Se ⟨.inl U,U,U,U,_,_,_,(AJ U BV Bw U (Qc U) (Aa U U)),U,U,?_⟩;rotate_left;have h3:=dF g3;iterate 5 refine Lk U g3 ?_
  refine Lh U g2 (oF U g3 U)<|Lq (oF U g2 U) U<|Ld<|Tf U<|Sk<|Es<|Lv 3 U<|Lq (Ac U U U U CT U) U ?_;refine Lq (ka U (by omega)) U ?_;refine Lq (Az U CT U U U (Au (by omega)) U ⟨by omega,by omega⟩) U<|Lx U ?_;refine Se ⟨.inl U,U,U,U,_,_,_,(AJ U BV Bw U (Qc U) (Aa U U)),U,U,?_⟩;rotate_left
 .exact absurd (g1.symm.trans eb) (by rw[decide_eq_false qV];decide)
 .exact key (n:=0) (bad (.inl (by omega))).symm
 .exact key (n:=0) (bad (.inr ⟨by rw[hx1]at*;omega,by omega⟩)).symm
 .rw[List.drop_zero,Nat.sub_zero,oW]at*;exact key (ok (by omega) (by omega))
 .rw[List.drop_zero,Nat.sub_zero,oW]at*;exact key (ok (by omega) (by rw[hx1]at*;omega))
theorem US (p:List UInt8->Bool) (h:¬(p [59]=true/\p [61]=true)):eu.find? p=Zn.find? p:=by
 unfold eu Zn;simp only[List.find?];cases h1:p [59]<;>cases h2:p [61]<;>simp_all
theorem wE (w:List UInt8):¬(VW w [59]=true/\VW w [61]=true):=by
 rintro⟨h1,h2⟩;unfold VW at h1 h2;rw[AB]at h1 h2;have e1:=dT (Bool.and_eq_true_iff.1 h1).2;have e2:=dT (Bool.and_eq_true_iff.1 h2).2;have:([59]:List UInt8)=[61]:=e1.symm.trans e2;cases this
theorem Pa {p:Int->Bool} {c:UInt8} {l:List UInt8}:(p c.toNat=true->0<tw p (c::l))/\(p c.toNat=false->tw p (c::l)=0):=
 ⟨fun h=>by rw[Bv h];omega,fun h=>Di h⟩
theorem Q0 (c:UInt8) (l:List UInt8):WW (c::l)=if c.toNat=126 then 1 else 0:=by
 unfold WW;show tw fb [c]=_;split
 .next h=>rw[Bv (show fb c.toNat=true from decide_eq_true (by omega))];rfl
 .next h=>rw[Di (show fb c.toNat=false from decide_eq_false (by omega))]
theorem Ts:∀x∈eu,0<x.length:=by decide
noncomputable def Km:=W7 Kl 211 (fun p: {w:List UInt8//w.length<=100000/\0<w.length}=>[.str p.1]) (fun p=>ey p.1)
theorem UD {w:List UInt8} (hw:w.length<=100000) (h0:0<w.length):Km 211 [.str w]=some (ey w):=
 An (enc:=fun p: {w:List UInt8//w.length<=100000/\0<w.length}=>[.str p.1]) (fun a b h=>by rw[show a.1=b.1 from AV.str.inj (List.cons.inj h).1]) ⟨w,hw,h0⟩
noncomputable def Kn:=W7 Km 213 (fun p: {w:List UInt8//w.length<=100000/\0<w.length}=>[.str p.1]) (fun p=>ez p.1)
theorem UC {w:List UInt8} (hw:w.length<=100000) (h0:0<w.length):Kn 213 [.str w]=some (ez w):=
 An (enc:=fun p: {w:List UInt8//w.length<=100000/\0<w.length}=>[.str p.1]) (fun a b h=>by rw[show a.1=b.1 from AV.str.inj (List.cons.inj h).1]) ⟨w,hw,h0⟩
def Xc (w:List UInt8):Nat×Nat×Bool:=
 if C5 97 122 (w.getD 0 0).toNat=true\/C5 65 90 (w.getD 0 0).toNat=true then Zo w
 else if C5 48 57 (w.getD 0 0).toNat=true\/(w.getD 0 0).toNat=126 then Zq w
 else match eu.find? (fun x=>VW w x)with
  |some x=>(5,x.length,true)
  |none=>(0,0,false)
def da (w:List UInt8):AV:=je ((Xc w).1:Nat) (w.take (Xc w).2.1) (Xc w).2.2
theorem tok_one (w:List UInt8) (hw:0<w.length):(Xc w).2.2=decide ((XW w).2≠0)/\((XW w).2≠0->(Xc w).1=(XW w).1/\(Xc w).2.1=(XW w).2):=by
 obtain⟨c,l,rfl⟩:∃c l,w=c::l:=by
  cases w with
  |nil=>exact absurd hw (Nat.lt_irrefl _)
  |cons c l=>exact⟨c,l,rfl⟩
 have fT:(c::l).getD 0 0=c:=rfl;have iC:(c::l).getD 1 0=l.getD 0 0:=rfl;have du:(c::l).drop 1=l:=rfl;have range:∀ {a b:Int},C5 a b c.toNat=true↔a<=c.toNat/\(c.toNat:Int)<=b:=fun {a b}=>by
  unfold C5;rw[Qf,decide_eq_true_iff,decide_eq_true_iff]
 by_cases h1:C5 97 122 c.toNat=true
 .have mq:¬C5 65 90 c.toNat=true:=by rw[range]at h1|-;omega
  have fP:=(Pa (p:=C5 97 122) (c:=c) (l:=l)).1 h1;have ht:Xc (c::l)=Zo (c::l):=by unfold Xc;rw[fT,if_pos (.inl h1)]
  rw[ht];unfold Zo XW;rw[fT,if_neg mq,if_pos h1];by_cases h2:isWord ((c::l).take (tw (C5 97 122) (c::l)))=true
  .rw[if_pos h2,if_pos h2];exact⟨(decide_eq_true (by show tw _ _≠0;omega)).symm,fun _=>⟨rfl,rfl⟩⟩
  .rw[if_neg h2,if_neg h2];by_cases h3:8<tw (C5 97 122) (c::l)
   .rw[if_pos h3];exact⟨(decide_eq_false (by omega)).trans (decide_eq_false (by simp)).symm,fun h=>absurd U h⟩
   .rw[if_neg h3];exact⟨(decide_eq_true (by omega)).trans (decide_eq_true (by show tw _ _≠0;omega)).symm,fun _=>⟨rfl,rfl⟩⟩
 .by_cases h2:C5 65 90 c.toNat=true
  .have ht:Xc (c::l)=Zo (c::l):=by unfold Xc;rw[fT,if_pos (.inr h2)]
   rw[ht];unfold Zo XW;rw[fT,if_pos h2,if_neg h1,if_pos h2];by_cases h3:8<1+tw (C5 97 122) ((c::l).drop 1)
   .rw[if_pos h3];exact⟨(decide_eq_false (by omega)).trans (decide_eq_false (by simp)).symm,fun h=>absurd U h⟩
   .rw[if_neg h3];exact⟨(decide_eq_true (by omega)).trans (decide_eq_true (by show 1+tw _ _≠0;omega)).symm,fun _=>⟨rfl,rfl⟩⟩
  .have dx:¬(C5 97 122 c.toNat=true\/C5 65 90 c.toNat=true):=fun h=>h.elim h1 h2;by_cases h3:C5 48 57 c.toNat=true
   .have fP:=(Pa (p:=C5 48 57) (c:=c) (l:=l)).1 h3;have hn126:¬c.toNat=126:=by rw[range]at h3;omega
    have ht:Xc (c::l)=Zq (c::l):=by unfold Xc;rw[fT,if_neg dx,if_pos (.inl h3)]
    have hm:WW (c::l)=0:=by rw[Q0,if_neg hn126]
    have hd:Yo (c::l)=tw (C5 48 57) (c::l):=by unfold Yo;rw[hm];rfl
    rw[ht];unfold Zq XW;rw[hm,hd,fT,if_neg h1,if_neg h2,if_pos fP];by_cases hb:7<tw (C5 48 57) (c::l)\/(1<tw (C5 48 57) (c::l)/\c.toNat=48)
    .have kW:Zp 0 (tw (C5 48 57) (c::l)) c.toNat=true:=by
      unfold Zp;rcases hb with hb|⟨hb,hc⟩
      .rw[decide_eq_true hb,Bool.or_true];rfl
      .rw[decide_eq_true hc,decide_eq_true (show 1<tw (C5 48 57) (c::l)+0 by omega),Bool.and_self,Bool.or_true]
     rw[if_pos hb,if_pos kW];exact⟨(decide_eq_false (by simp)).symm,fun h=>absurd U h⟩
    .have kW:Zp 0 (tw (C5 48 57) (c::l)) c.toNat=false:=by
      unfold Zp;rw[decide_eq_false (show¬tw (C5 48 57) (c::l)=0 by omega),decide_eq_false (show¬7<tw (C5 48 57) (c::l) by omega)];by_cases hc:c.toNat=48
      .rw[decide_eq_false (show¬1<tw (C5 48 57) (c::l)+0 by omega),Bool.and_false];rfl
      .rw[decide_eq_false hc];rfl
     rw[if_neg hb,if_neg (by rw[kW];exact Bool.false_ne_true)];exact⟨(decide_eq_true (by show tw _ _≠0;omega)).symm,fun _=>⟨rfl,by show 0+tw _ _=_;omega⟩⟩
   .have hz:=(Pa (p:=C5 48 57) (c:=c) (l:=l)).2 (by cases h:C5 48 57 c.toNat<;>first|rfl|exact absurd h h3);by_cases h4:c.toNat=126
    .have ht:Xc (c::l)=Zq (c::l):=by unfold Xc;rw[fT,if_neg dx,if_pos (.inr h4)]
     have hm:WW (c::l)=1:=by rw[Q0,if_pos h4]
     have hd:Yo (c::l)=tw (C5 48 57) l:=by unfold Yo;rw[hm];rfl
     rw[ht];unfold Zq XW;rw[hm,hd,fT,iC,du,if_neg h1,if_neg h2,hz,if_neg (Nat.lt_irrefl 0),if_pos h4];by_cases hb:tw (C5 48 57) l<1\/7<tw (C5 48 57) l\/(l.getD 0 0).toNat=48
     .have kW:Zp 1 (tw (C5 48 57) l) (l.getD 0 0).toNat=true:=by
       unfold Zp;by_cases hz0:tw (C5 48 57) l=0
       .rw[decide_eq_true hz0];rfl
       .rcases hb with hb|hb|hc
        .omega
        .rw[decide_eq_true hb,Bool.or_true];rfl
        .rw[decide_eq_true hc,decide_eq_true (show 1<tw (C5 48 57) l+1 by omega),Bool.and_self,Bool.or_true]
      rw[if_pos hb,if_pos kW];exact⟨(decide_eq_false (by simp)).symm,fun h=>absurd U h⟩
     .have kW:Zp 1 (tw (C5 48 57) l) (l.getD 0 0).toNat=false:=by
       unfold Zp;rw[decide_eq_false (show¬tw (C5 48 57) l=0 by omega),decide_eq_false (show¬7<tw (C5 48 57) l by omega),decide_eq_false (show¬(l.getD 0 0).toNat=48 by omega)];rfl
      rw[if_neg hb,if_neg (by rw[kW];exact Bool.false_ne_true)];exact⟨(decide_eq_true (by show 1+tw _ _≠0;omega)).symm,fun _=>⟨rfl,rfl⟩⟩
    .have hni:¬(C5 48 57 c.toNat=true\/c.toNat=126):=fun h=>h.elim h3 h4;have hf:=US (fun x=>VW (c::l) x) (wE (c::l));unfold Xc XW XR;rw[fT,if_neg dx,if_neg hni,if_neg h1,if_neg h2,hz,if_neg (Nat.lt_irrefl 0),if_neg h4,<-hf];cases hx:eu.find? (fun x=>VW (c::l) x)with
     |none=>exact⟨(decide_eq_false (by simp)).symm,fun h=>absurd rfl h⟩
     |some x=>
      have:=Ts x (List.mem_of_find?_eq_some hx);simp only[if_pos this];exact⟨(decide_eq_true (by omega)).symm,fun _=>by first|trivial|exact⟨rfl,rfl⟩|exact⟨trivial,trivial⟩⟩
theorem wF (w:List UInt8) (hw:w.length<=100000) (h0:0<w.length):Cc (EK Kn) 135 [.str w] S0 (da w):=by
 have hle:=MW (fun x=> !VW w x) eu;have hl:(C5 97 122 (w.getD 0 0).toNat=true\/C5 65 90 (w.getD 0 0).toNat=true)->da w=ey w:=fun h=>by unfold da Xc;rw[if_pos h];rfl
 have hi:¬(C5 97 122 (w.getD 0 0).toNat=true\/C5 65 90 (w.getD 0 0).toNat=true)->(C5 48 57 (w.getD 0 0).toNat=true\/(w.getD 0 0).toNat=126)->da w=ez w:=fun h h'=>by unfold da Xc;rw[if_neg h,if_pos h'];rfl
 have rU:Kn 214 []=some (.Cf (eu.map .str) 15 1 true):=hq_214;obtain⟨sg,hsg⟩:∃l,l=eu:=⟨_,rfl⟩
 have h15:sg.length=15:=by rw[hsg];rfl
 rw[<-hsg]at hle rU;refine As U ?_;have Z4:¬(C5 97 122 (w.getD 0 0).toNat=true\/C5 65 90 (w.getD 0 0).toNat=true)->¬(C5 48 57 (w.getD 0 0).toNat=true\/(w.getD 0 0).toNat=126)->Xc w=match sg.find? (fun x=>VW w x)with
  |some x=>(5,x.length,true)
  |none=>(0,0,false):=fun h h'=>by unfold Xc;rw[if_neg h,if_neg h',hsg]
 focus
  refine Eh U<|Sq<|Es<|qm U ?_;refine Lq (A0 (n:=0) U CT U U (by omega)) U ?_;refine Lw U<|Sb<|Es<|qm U ?_;refine Lo (kc U (wg)) U<|qm U ?_;refine Bb U (fun g1=>?_) (fun g1=>?_);refine Lw U<|Tt U<|Es<|qm U ?_;refine Lo (kc U (UD (by omega) (by omega))) U ?_;refine Lx U ?_;refine Se ⟨.inl U,U,U,U,_,_,_,(AJ U BV Bw U (Qc U) (Aa U U)),U,U,?_⟩;rotate_left;refine Lv 1 U ?_;refine Lg U U (kc U (P0))<|Lw U ?_;refine Cb U (fun g2=>?_) (fun g2=>?_);refine Es<|qm U ?_;refine Lo (kc U (UD (by omega) (by omega))) U ?_;refine Lx U ?_;refine Se ⟨.inl U,U,U,U,_,_,_,(AJ U BV Bw U (Qc U) (Aa U U)),U,U,?_⟩;rotate_left;refine Es<|qm U ?_;refine Lo (kc U (Aad)) U<|qm U ?_;refine Bb U (fun g3=>?_) (fun g3=>?_);refine Lw U<|Tt U<|Es<|qm U ?_;refine Lo (kc U (UC (by omega) (by omega))) U ?_;refine Lx U ?_;refine Se ⟨.inl U,U,U,U,_,_,_,(AJ U BV Bw U (Qc U) (Aa U U)),U,U,?_⟩;rotate_left;refine Lw U ?_
  refine Cd U (fun h4=>?_) (fun h4=>?_);refine Es<|qm U ?_;refine Lo (kc U (UC (by omega) (by omega))) U ?_;refine Lx U ?_;refine Se ⟨.inl U,U,U,U,_,_,_,(AJ U BV Bw U (Qc U) (Aa U U)),U,U,?_⟩;rotate_left;refine Sk<|Sq<|Es ?_;refine Lo (kc U (rU)) U<|Lw U<|Sb ?_;rotate_left
 .rw[hl (.inl g1)];rfl
 .rw[hl (.inr g2)];rfl
 .rw[hi (by rw[g1,g2];simp) (.inl g3)];rfl
 .rw[hi (by rw[g1,g2];simp) (.inr (by omega))];rfl
 .have Z4:=Z4 (by rw[g1,g2];simp) (by rw[g3];simp only[Bool.false_eq_true,false_or];omega);clear hl hi;refine Ai (fun i:Nat=>([(33,.int .i64 (i:Nat)),(32,.int .i64 ((15:Nat):Int)),(31,.Cf (sg.map .str) 15 1 true),(3,.bool false),(2,.ptr 0 0),(0,.str w)],Xj 1 0 [] [(0,some (.cells [.int .i64 0,.str [],.int .i64 0,.int .i64 0] 133 false))])) (fun i=>15-i) (fun i=>i<=fW (fun x=> !VW w x) sg) 0 (Qm _) U (Ah (by repeat' constructor)) fun i hi=>?_;by_cases Co:i<15
  .have hx:sg[i]?=some (sg.getD i []):=by rw[List.getD_eq_getElem?_getD,Qi (by omega)];rfl
   have WT:=F3 hi hx;have qG:CC (0+1) i (.Cf (sg.map .str) 15 1 true)=some (.Wl (.str (sg.getD i [])::(sg.map AV.str).drop (i+1))):=by
    have hd:(sg.map AV.str).drop i= .str (sg.getD i [])::(sg.map AV.str).drop (i+1):=by
     rw[List.drop_eq_getElem_cons (by rw[List.length_map];omega),List.getElem_map,List.getD_eq_getElem?_getD,Qi (by omega)];rfl
    show(bif Nat.blt i 15 then(XK (i*(0+1)) (sg.map AV.str)).bind lT else none)=_;rw[show Nat.blt i 15=true from Qd Co,Nat.zero_add,Nat.mul_one,Iy (by rw[List.length_map];omega),hd];rfl
   generalize sg.getD i []=x at*;focus
    refine Ew U<|Sq ?_;refine Cd U (fun h5=>?_) (fun h5=>?_);refine Sk<|Sq<|Sb<|Es<|Lq (kv U qG) U<|Lw U<|Es<|Lv 2 U ?_;refine Lo (kc U (wo)) U<|Ld ?_;refine Cb U (fun g6=>?_) (fun g6=>?_);refine Eh U ?_;refine Se ⟨.inl U,U,U,U,_,_,_,(AJ U BV Bw U (Qc U) (Aa U U)),U,U,?_⟩;rotate_left;refine Sk<|Sr ?_;refine Lq (ka (b:=1) U (by omega)) U ?_;refine Lw U ?_;rotate_left;exact absurd h5 (by omega)
   .have h4:¬i<fW (fun x=> !VW w x) sg:=fun h=>by have:=WT.2 h;rw[g6]at this;cases this
    rw[GW,show fW (fun x=> !VW w x) sg=i by omega,hx]at Z4;have hp:Cp (w.take x.length) x=true:=(Bool.and_eq_true_iff.1 g6).2;rw[AB]at hp;unfold da;rw[Z4];show je (5:Nat) x true=je (5:Nat) (w.take x.length) true;rw[dT hp]
   .exact⟨i+1,WT.1 (by rw[g6];rfl),by show 15-(i+1)<15-i;omega,U,U,Ah (by repeat' constructor)⟩
  .focus
    refine Ew U<|Sq ?_;refine Cd U (fun h5=>?_) (fun h5=>?_);exact absurd h5 (by omega);refine Sx<|A8 U<|Eh U ?_;refine Se ⟨.inl U,U,U,U,_,_,_,(AJ U BV Bw U (Qc U) (Aa U U)),U,U,?_⟩;rotate_left
   rw[GW,show fW (fun x=> !VW w x) sg=sg.length by omega,List.getElem?_eq_none (Qj _)]at Z4;unfold da;rw[Z4];rfl
noncomputable def Ko:=W7 Kn 135 (fun p: {w:List UInt8//w.length<=100000/\0<w.length}=>[.str p.1]) (fun p=>da p.1)
theorem hq_135 {w:List UInt8} (hw:w.length<=100000) (h0:0<w.length):Ko 135 [.str w]=some (da w):=
 An (enc:=fun p: {w:List UInt8//w.length<=100000/\0<w.length}=>[.str p.1]) (fun a b h=>by rw[show a.1=b.1 from AV.str.inj (List.cons.inj h).1]) ⟨w,hw,h0⟩
theorem allo (h:Wq Tryz.prog 8 [] (.bool true)):Cq Tryz.prog gn Ko:=by
 have a1:Cq Tryz.prog gn Kl:=A3 Ax Aj (allk h) (fun p:StrJ=>one_to p.1.1 p.1.2 p.2.1 p.2.2) (fun _=>rfl) (fun _=>rfl);have a2:Cq Tryz.prog gn Km:=A3 Ax Aj a1 (fun p=>Sf p.1 p.2.1 p.2.2) (fun _=>rfl) (fun _=>rfl);have a3:Cq Tryz.prog gn Kn:=A7 a2 fun p=>AP Ax Aj a1 (Sm p.1 p.2.1 p.2.2) rfl rfl;exact A3 Ax Aj a3 (fun p=>wF p.1 p.2.1 p.2.2) (fun _=>rfl) (fun _=>rfl)
abbrev XX:=Nat×List UInt8×Nat×Nat
def XG (t:XX):List AV:=[.int .i64 (t.1:Nat),.str t.2.1,.int .i64 (t.2.2.1:Nat),.int .i64 (t.2.2.2:Nat)]
theorem Vd (t:XX):(XG t).length=3+1:=rfl
theorem Jv (ts:List XX):(ts.flatMap XG).all er=true:=by
 rw[List.all_eq_true];intro v hv;obtain⟨t,_,ht⟩:=List.mem_flatMap.1 hv;simp only[XG,Qk,List.mem_nil_iff,or_false]at ht;rcases ht with rfl|rfl|rfl|rfl<;>rfl
theorem EU:∀ {cs:List AV},cs.all er=true->cs.all (Cj 40)=true
 | [],_=>rfl
 |v::cs,h=>by
  rw[List.all_cons,Qf]at h|-;refine⟨?_,EU h.2⟩;have h1:=h.1;cases v<;>first|rfl|cases h1
def om (w:List UInt8) (a:Nat):XX:=((XW (w.drop a)).1,(w.drop a).take (XW (w.drop a)).2,a,1+ends (w.take a))
def ZT (w:List UInt8) (a:Nat):Nat:=a+(XW (w.drop a)).2+Ci false (w.drop (a+(XW (w.drop a)).2))
def scan (w:List UInt8):Nat->Nat->List XX×Option Nat
 |0,_=>([],none)
 |f+1,a=>if a<w.length then
  if(XW (w.drop a)).2=0 then([],some a)
  else(om w a::(scan w f (ZT w a)).1,(scan w f (ZT w a)).2)
  else([],none)
def Cv (w:List UInt8):List XX×Option Nat:=scan w (w.length+1) (Ci false w)
theorem UG {a p:List UInt8} (h:VW a p=true):p.length<=a.length:=dT (Bool.and_eq_true_iff.1 h).1
theorem P5 (r:List UInt8) (l:List (List UInt8)):XR (fun x=>VW r x) l<=r.length:=by
 unfold XR;split
 .next x hx=>exact UG (List.find?_some hx)
 .exact Qm _
theorem one_le (r:List UInt8) (h:0<r.length):(XW r).2<=r.length:=by
 have h1:=Et (C5 97 122) r;have h2:=Et (C5 97 122) (r.drop 1);have h3:=Et (C5 48 57) r;have h4:=Et (C5 48 57) (r.drop 1);have h5:=P5 r Zn;rw[List.length_drop]at h2 h4;unfold XW;repeat' split
 all_goals simp only
 all_goals omega
def fz (ts:List XX) (n:Nat):AV:= .tuple [CJ (ts.flatMap XG) ts.length 4,.int .i64 (n:Nat)]
theorem Ip {s:St} {v:AV} {ts:List XX} {n:Nat} (h:Grown s 133 4 v (ts.flatMap XG) ts.length):∃ks,Cs s 0 40 (.tuple [v,.int .i64 (n:Nat)]) []=some (fz ts n,ks)/\Cr 0 40 (fz ts n)=true:=by
 obtain⟨ks,hf⟩:=h.j0 (Jv ts) (EU (Jv ts)) 37;refine⟨ks,?_,?_⟩
 .show(Cs.many (Cs s 0 39) [v,.int .i64 (n:Nat)] []).bind _=_;unfold Cs.many Cs.many Cs.many;rw[hf];rfl
 .unfold fz CJ;cases Nat.beq ts.length 0<;>rfl
theorem R9 (w:List UInt8) (hw:w.length<=4000):Cc (EK Ko) 39 [.str w] S0 (fz (Cv w).1 ((Cv w).2.getD w.length)):=by
 have au:=Ii false w;have hit_96:Ko 96 [.str w,.int .i64 ((0:Nat):Int)]=some (.int .i64 (Ci false w:Nat)):=by
  have:=hq_96 (w:=w) (k:=0) (by omega) (Qm _);rw[List.drop_zero,Nat.zero_add]at this;exact this
 refine As U ?_;iterate 2 refine Ew U ?_
 refine Es<|qm U ?_;refine Lo (kc U (hit_96)) U<|Lw U<|Sq<|Sb ?_;refine Ai (fun p:Nat×Nat×List XX×AV×St=>([(4,p.2.2.2.1),(5,.int .i64 (p.2.1:Nat)),(0,.str w)],p.2.2.2.2)) (fun p=>p.1)
  (fun p=>p.2.1<=w.length/\w.length<p.2.1+p.1/\Cv w=(p.2.2.1++(scan w p.1 p.2.1).1,(scan w p.1 p.2.1).2)/\Grown p.2.2.2.2 133 4 p.2.2.2.1 (p.2.2.1.flatMap XG) p.2.2.1.length/\p.2.2.1.length<=p.2.1/\p.2.2.2.2.bound=0/\p.2.2.2.2.log=[])
  (w.length+1,Ci false w,[],.Ca,_) ⟨au,by show w.length<Ci false w+(w.length+1);omega,rfl,Grown.nil _ _ _,Qm _,rfl,rfl⟩ rfl (Ah (by repeat' constructor)) ?_
 rintro⟨f,a,out,v,st⟩ ⟨ha,hfa,fp,aV,zb,ZR,ZE⟩;dsimp only at ha hfa fp aV zb ZR ZE|-;obtain⟨f,rfl⟩:∃g,f=g+1:=⟨f-1,by omega⟩
 by_cases Co:a<w.length
 .have hol1:=one_le (w.drop a) (by rw[List.length_drop];omega);rw[List.length_drop]at hol1;have hs:scan w (f+1) a=if(XW (w.drop a)).2=0 then([],some a)else(om w a::(scan w f (ZT w a)).1,(scan w f (ZT w a)).2):=by
   conv=>lhs;unfold scan
   rw[if_pos Co]
  have hit_97:Ko 97 [.str w,.int .i64 (a:Nat)]=some (.tuple [.int .i64 ((XW (w.drop a)).1:Nat),.int .i64 ((XW (w.drop a)).2:Nat)]):=hq_97 (by omega) Co;have hitb_96:Ko 96 [.str w,.int .i64 ((a+(XW (w.drop a)).2:Nat):Int)]=some (.int .i64 (ZT w a:Nat)):=hq_96 (by omega) (by omega);have hit_98:Ko 98 [.str w,.int .i64 (a:Nat)]=some (.int .i64 ((1+ends (w.take a):Nat):Int)):=hq_98 (by omega) (by omega);focus
   refine Sq<|Es<|Lv 2 U<|Lq (Ac U U U U CT U) U<|Lw U ?_;refine Cd U (fun h1=>?_) (fun h1=>?_);refine Sk<|Sb<|Es<|Lv 2 U ?_;refine Lo (kc U (hit_97)) U<|Lw U<|Sq<|Ew U ?_;refine Cd U (fun h2=>?_) (fun h2=>?_);refine Ew U ?_;rotate_left;refine Sk<|Ag (by kernel_rfl)<|Nv 6 U ?_;refine Nq (ka U (by omega)) U ?_;refine Nq (Az U CT U U U (Au (by omega)) (Au (by omega)) ⟨by omega,by omega⟩) U<|Nv 3 U ?_;refine Na (kC U (hit_98)) (.inl U) U<|Nv 1 U<|Bh U Aaa Bw rR U U U (.inl U) U U ?_;rotate_left;exact absurd h1 (by omega)
  .rw[if_pos (by omega)]at hs;rw[hs,List.append_nil]at fp;obtain⟨ks,hf,hu⟩:=Ip (n:=a) aV;rw[fp];exact Se ⟨.inl U,U,ZE,ZR,_,_,ks,Aa U (Aa U U),hf,hu,U⟩
  .have nL:¬(XW (w.drop a)).2=0:=by omega
   rw[if_neg nL]at hs;have nV:=Ii false (w.drop (a+(XW (w.drop a)).2));rw[List.length_drop]at nV;have aC:ZT w a=a+(XW (w.drop a)).2+Ci false (w.drop (a+(XW (w.drop a)).2)):=rfl;refine OH aV ZR U (by decide) U (AH (by omega) (by decide)) U U U U Aaa Bw we rR (by kernel_rfl) (by kernel_rfl) U U (by kernel_rfl) (by kernel_rfl) (.inl U) U U fun v2 bN iD gr2 _ _ _ lg2 bd2=>?_;refine Nw U<|Sr<|Lv 3 U ?_;refine Lq (ka U (by omega)) U ?_;refine Lo (kc U (hitb_96)) U<|Lw U ?_;refine⟨(f,ZT w a,out++[om w a],v2,bN),⟨by show ZT w a<=w.length;omega,by show w.length<ZT w a+f;omega,?_,?_,?_,bd2,lg2.trans ZE⟩,Nat.lt_succ_self _,U,U,Ah (by repeat' constructor)⟩
   .rw[fp,hs];simp only[List.append_assoc,List.singleton_append]
   .rw[List.flatMap_append,Ql];refine(congrArg (fun c=>Grown bN 133 4 v2 (out.flatMap XG++c) (out.length+1)) ?_).mp gr2;show [AV.int .i64 _,.str ((w.drop a).take (a+(XW (w.drop a)).2-a)),_,_]=_;rw[Nat.add_sub_cancel_left];rfl
   .rw[Ql,List.length_singleton];show out.length+1<=ZT w a;omega
 .have hs:scan w (f+1) a=([],none):=by
   conv=>lhs;unfold scan
   rw[if_neg Co]
  rw[hs,List.append_nil]at fp;focus
   refine Sq<|Es<|Lv 2 U<|Lq (Ac U U U U CT U) U<|Lw U ?_;refine Cd U (fun h1=>?_) (fun h1=>?_);exact absurd h1 (by omega);refine Sx<|A8 U<|Ew U ?_;rotate_left
  obtain⟨ks,hf,hu⟩:=Ip (n:=a) aV;rw[fp];refine Se ⟨.inl U,U,ZE,ZR,_,_,ks,Aa U (Aa U U),hf,hu,?_⟩;rw[show a=w.length by omega];rfl
noncomputable def Kp:=W7 Ko 39 (fun p: {w:List UInt8//w.length<=4000}=>[.str p.1]) (fun p=>fz (Cv p.1).1 ((Cv p.1).2.getD p.1.length))
theorem hq_39 {w:List UInt8} (hw:w.length<=4000):Kp 39 [.str w]=some (fz (Cv w).1 ((Cv w).2.getD w.length)):=
 An (enc:=fun p: {w:List UInt8//w.length<=4000}=>[.str p.1]) (fun a b h=>by rw[show a.1=b.1 from AV.str.inj (List.cons.inj h).1]) ⟨w,hw⟩
theorem I6 (ts:List XX) (n:Nat):Cj 40 (fz ts n)=true:=by
 unfold fz CJ;cases Nat.beq ts.length 0<;>rfl
theorem allp (h:Wq Tryz.prog 8 [] (.bool true)):Cq Tryz.prog gn Kp:=
 A3 Ax Aj (allo h) (fun p=>R9 p.1 p.2) (fun _=>rfl) (fun p=>I6 _ _)
structure oo (st sA sB:St) (z cs:List AV) (T:TypeId):Prop where
 h1:sA.heap.get st.next=some (.cells z T false)
 h2:sB.heap.get st.next=some (.cells cs T false)
 h3:∀c,c<st.next->sA.heap.get c=st.heap.get c
 h4:∀c,c<st.next->sB.heap.get c=st.heap.get c
 h5:sB.bound=st.bound
 h6:st.bound<=st.next->sB.log=st.log
 h7:sB.next=st.next+1
theorem Pn {s:St} {b:Nat} {o:Option Cw} (h:s.bound<=b):(s.put b o).log=s.log:=by
 show(bif Nat.blt b s.bound then _ else s.log)=s.log;cases hb:Nat.blt b s.bound with
 |false=>rfl
 |true=>
  have:b<s.bound:=Qc hb;omega
theorem Bg {st:St} {z cs:List AV} {T:TypeId}:oo st (st.alloc (.cells z T false)) ((st.alloc (.cells z T false)).put st.next (some (.cells cs T false))) z cs T:=
 ⟨A4,by rw[Aw,if_pos rfl],fun _ h=>Ao h,fun c h=>by rw[Aw,if_neg (Nat.ne_of_lt h),Ao h],rfl,fun h=>Pn h,rfl⟩
theorem oo.more {st sA sB:St} {z cs XU:List AV} {T:TypeId} (h:oo st sA sB z cs T):oo st sA (sB.put st.next (some (.cells XU T false))) z XU T:=
 ⟨h.h1,by rw[Aw,if_pos rfl],h.h3,fun c hc=>by rw[Aw,if_neg (Nat.ne_of_lt hc)];exact h.h4 c hc,h.h5,fun hb=>(Pn (by rw[h.h5];exact hb)).trans (h.h6 hb),h.h7⟩
def Gd (b bs m:Nat) (st s':St):Prop:=st.next<=s'.next/\s'.bound=st.bound/\b∈s'.log/\(∀d∈s'.log,d∈st.log\/d<st.bound)/\s'.heap.get bs=st.heap.get bs/\s'.heap.get m=st.heap.get m
structure TokH (b bs base:Nat) (w:List UInt8) (C:Nat->Nat->Tr Cw->Prop) (D:Nat->Tr Cw->Prop):Prop where
 yes:∀j (hj:j<(Cv w).1.length) (s0 st:St),base<=st.bound->st.bound<=s0.next->st.next=s0.next+1->(∀d,d<s0.next->st.heap.get d=s0.heap.get d)->C j s0.next s0.heap->Yields (EK Kp) b [.agg (XG (Cv w).1[j]),.bool true] st fun v s'=>v=true/\Gd b bs s0.next st s'/\C (j+1) s'.next s'.heap
 no:∀(k a l:Int) (t:List UInt8) (s0 st:St),base<=st.bound->st.bound<=s0.next->st.next=s0.next+1->(∀d,d<s0.next->st.heap.get d=s0.heap.get d)->C (Cv w).1.length s0.next s0.heap->Yields (EK Kp) b [.agg [.int .i64 k,.str t,.int .i64 a,.int .i64 l],.bool false] st fun v s'=>v=false/\Gd b bs s0.next st s'/\D s'.next s'.heap
 low:b<base
theorem Rx {b base bs:Nat} {w:List UInt8} {C:Nat->Nat->Tr Cw->Prop} {D:Nat->Tr Cw->Prop} (H:TokH b bs base w C D) (hw:w.length<=4000) {s:St} (hb:base<=s.next) (hC:C 0 s.next s.heap) (jn:bs<s.next) (gs:s.heap.get bs=some (.cells [.str w] 9 false)) {R:AV->St->Prop}
 (hR:∀s',s'.bound=s.bound->s.next<=s'.next->(∀d∈s'.log,d∈s.log\/d<s.bound)->((Cv w).2=none->C (Cv w).1.length s'.next s'.heap)->((Cv w).2≠none->D s'.next s'.heap)->R (.tuple []) s'):
 VZ (EK Kp) 133 [.func (.yield b) [] [],.ptr bs 0] s R:=by
 have au:=Ii false w;have hit_134:Kp 134 [.str w]=some (.int .i64 (Ci false w:Nat)):=w8 (by omega);refine VZ.unit (fn:=Tryz.f133) U (by kernel_rfl) U U U U ?_;have gs0:s.enter.heap.get bs=some (.cells [.str w] 9 false):=gs;have fin:∀st:St,st.bound=s.next->s.next<=st.next->((Cv w).2=none->C (Cv w).1.length st.next st.heap)->((Cv w).2≠none->D st.next st.heap)->R (.tuple []) (s.back st):=fun st h1 h2 h3 h4=>
  hR (s.back st) rfl h2 (fun d hd=>(Dv hd).imp id And.right) h3 h4
 refine Es<|Lo (kl U gs0 U) U ?_;refine Lo (kc U (hit_134)) U<|Lw U<|Sb ?_;refine Ai (fun p:Nat×Nat×List XX×St=>([(3,.int .i64 (p.2.1:Nat)),(0,.func (.yield b) [] []),(1,.ptr bs 0)],p.2.2.2)) (fun p=>p.1)
  (fun p=>p.2.1<=w.length/\w.length<p.2.1+p.1/\Cv w=(p.2.2.1++(scan w p.1 p.2.1).1,(scan w p.1 p.2.1).2)/\p.2.2.2.bound=s.next/\s.next<=p.2.2.2.next/\C p.2.2.1.length p.2.2.2.next p.2.2.2.heap/\(p.2.2.2.log=[]->p.2.2.1=[])/\p.2.2.2.heap.get bs=some (.cells [.str w] 9 false))
  (w.length+1,Ci false w,[],s.enter) ⟨au,by show w.length<Ci false w+(w.length+1);omega,rfl,rfl,Qj _,hC,fun _=>rfl,gs⟩ rfl (Ah (by repeat' constructor)) ?_
 rintro⟨f,a,out,st⟩ ⟨ha,hfa,fp,ZR,aC,hCj,ZE,tD⟩;dsimp only at ha hfa fp ZR aC hCj ZE tD|-;obtain⟨f,rfl⟩:∃g,f=g+1:=⟨f-1,by omega⟩
 by_cases Co:a<w.length
 .have hld:(w.drop a).length=w.length-a:=List.length_drop;have hol1:=one_le (w.drop a) (by omega);obtain⟨ht1,ht2⟩:=tok_one (w.drop a) (by omega);have hs:scan w (f+1) a=if(XW (w.drop a)).2=0 then([],some a)else(om w a::(scan w f (ZT w a)).1,(scan w f (ZT w a)).2):=by
   conv=>lhs;unfold scan
   rw[if_pos Co]
  have rV:Kp 136 [.str ((w.drop 0).take (a-0)),.str [10]]=some (.int .i64 (ends (w.take a):Nat)):=by
   rw[List.drop_zero,Nat.sub_zero];exact hq_136
  have hel:=Vb (w.take a);rw[List.length_take]at hel;have jT:Kp 135 [.str ((w.drop a).take (w.length-a))]=some (je ((Xc (w.drop a)).1:Nat) ((w.drop a).take (Xc (w.drop a)).2.1) (Xc (w.drop a)).2.2):=by
   rw[List.take_of_length_le (by omega)];exact hq_135 (by omega) (by omega)
  obtain⟨kd,tx,is,e1,e2,e3⟩:∃kd tx is,kd=(Xc (w.drop a)).1/\tx=(w.drop a).take (Xc (w.drop a)).2.1/\is=(Xc (w.drop a)).2.2:=⟨_,_,_,rfl,rfl,rfl⟩
  rw[<-e1,<-e2,<-e3]at jT;unfold je at jT;rw[<-e3]at ht1;have c1:=Bg (st:=st) (z:=[.int .i64 0,.str [],.int .i64 0,.int .i64 0]) (cs:=[.int .i64 (kd:Nat),.str tx,.int .i64 0,.int .i64 0]) (T:=133);have c2:=c1.more (XU:=[.int .i64 (kd:Nat),.str tx,.int .i64 (a:Nat),.int .i64 0]);have c3:=c2.more (XU:=[.int .i64 (kd:Nat),.str tx,.int .i64 (a:Nat),.int .i64 ((1+ends (w.take a):Nat):Int)]);have k0:=c1.h1;have k1:=c1.h2;have k2:=c2.h2;have k3:=c3.h2;have gb1:=(c1.h4 bs (by omega)).trans tD;have lD:b<s.next:=Nat.lt_of_lt_of_le H.low hb;by_cases hn:(XW (w.drop a)).2=0
  .rw[if_pos hn]at hs;rw[hs,List.append_nil]at fp;obtain rfl:is=false:=by rw[ht1,hn];rfl
   rw[show out=(Cv w).1 by rw[fp]]at hCj;have hy:=H.no kd a ((1+ends (w.take a):Nat):Int) tx st _ (by rw[c3.h5,ZR];exact hb) (by rw[c3.h5,ZR];exact aC) c3.h7 c3.h4 hCj;focus
    refine Sq<|Es<|qm U<|Lo (kl U tD U) U<|Lq (Ac U U U U CT U) U<|Lw U ?_;refine Cd U (fun h1=>?_) (fun h1=>?_);refine Sk<|Sq<|Sb<|Es<|Lo (kl U tD U) U<|qm U<|Lq (Az U CT U U U U (Au (by omega)) ⟨by omega,by omega⟩) U ?_;refine Lo (kc U (jT)) U<|Lv 3 U<|Lo (kz U) U<|Ln (kw U k0 U) U<|Lw U<|Es<|qm U<|Lo (kl U gb1 U) U<|qm U<|Lq (Az U CT U U U (Au (by omega)) U ⟨by omega,by omega⟩) U ?_;refine Lo (kc U (rV)) U ?_;refine Lq (ka (a:=1) U (by omega)) U ?_;refine Lv 1 U<|Ln (kw U k1 U) U<|Lv 1 U<|Ln (kw U k2 U) U<|Ld<|Sq<|Es<|qm U<|Lo (kL U k3 U) U<|qm U ?_;rotate_left;exact absurd h1 (by omega)
   refine Gm U U U U U U U hy ?_;rintro v s' ⟨rfl,⟨y1,y2,y3,y4,y5,y7⟩,y6⟩;rw[c3.h7]at y1;rw[c3.h5,ZR]at y2;refine Lw U<|Tt U ?_;refine Se ⟨.inl U,rfl,fun h=>absurd h (List.ne_nil_of_mem y3),fin s' y2 (by omega) (fun h=>?_) fun _=>y6⟩;rw[fp]at h;cases h
  .rw[if_neg hn]at hs;obtain⟨ht3,ht4⟩:=ht2 hn;obtain rfl:is=true:=by rw[ht1];exact decide_eq_true hn
   have ecell:XG (om w a)=[.int .i64 (kd:Nat),.str tx,.int .i64 (a:Nat),.int .i64 ((1+ends (w.take a):Nat):Int)]:=by
    rw[e1,e2,ht3,ht4];rfl
   have hj:out.length<(Cv w).1.length:=by rw[fp,hs];simp only[Ql,List.length_cons];omega
   have j4:(Cv w).1[out.length]=om w a:=by simp only[fp,hs];rw[List.getElem_append_right (Qj _)];simp
   have hy:=H.yes out.length hj st _ (by rw[c3.h5,ZR];exact hb) (by rw[c3.h5,ZR];exact aC) c3.h7 c3.h4 hCj;rw[j4,ecell]at hy;focus
    refine Sq<|Es<|qm U<|Lo (kl U tD U) U<|Lq (Ac U U U U CT U) U<|Lw U ?_;refine Cd U (fun h1=>?_) (fun h1=>?_);refine Sk<|Sq<|Sb<|Es<|Lo (kl U tD U) U<|qm U<|Lq (Az U CT U U U U (Au (by omega)) ⟨by omega,by omega⟩) U ?_;refine Lo (kc U (jT)) U<|Lv 3 U<|Lo (kz U) U<|Ln (kw U k0 U) U<|Lw U<|Es<|qm U<|Lo (kl U gb1 U) U<|qm U<|Lq (Az U CT U U U (Au (by omega)) U ⟨by omega,by omega⟩) U ?_;refine Lo (kc U (rV)) U ?_;refine Lq (ka (a:=1) U (by omega)) U ?_;refine Lv 1 U<|Ln (kw U k1 U) U<|Lv 1 U<|Ln (kw U k2 U) U<|Ld<|Sq<|Es<|qm U<|Lo (kL U k3 U) U<|qm U ?_;rotate_left;exact absurd h1 (by omega)
   refine Gm U U U U U U U hy ?_;rintro v s' ⟨rfl,⟨y1,y2,y3,y4,y5,y7⟩,y6⟩;rw[c3.h7]at y1;rw[c3.h5,ZR]at y2;have g3:=y5.trans ((c3.h4 bs (by omega)).trans tD);have g4:=y7.trans c3.h2;have htl:tx.length=(XW (w.drop a)).2:=by rw[e2,ht4,List.length_take];omega
   have nV:=Ii false (w.drop (a+(XW (w.drop a)).2));rw[List.length_drop]at nV;have hnxa:ZT w a=a+(XW (w.drop a)).2+Ci false (w.drop (a+(XW (w.drop a)).2)):=rfl;have wG:Kp 134 [.str ((w.drop (a+tx.length)).take (w.length-(a+tx.length)))]=some (.int .i64 (Ci false (w.drop (a+(XW (w.drop a)).2)):Nat)):=by
    rw[htl,List.take_of_length_le (by rw[List.length_drop];exact Qj _)];exact w8 (by rw[List.length_drop];omega)
   refine Lw U<|Tf U<|Sk<|Sr<|Lv 2 U<|Lo (kl U g4 U) U<|Lq (Ac U U U U CT U) U ?_;refine Lq (ka U (by omega)) U ?_;refine Lw U<|Sr<|qm U<|Lo (kl U g3 U) U<|qm U<|Lq (Az U CT U U U U (Au (by omega)) ⟨by omega,by omega⟩) U ?_;refine Lo (kc U (wG)) U ?_;refine Lq (ka U (by omega)) U ?_;refine Lw U ?_;refine⟨(f,ZT w a,out++[om w a],s'),⟨by show ZT w a<=w.length;omega,by show w.length<ZT w a+f;omega,?_,y2,by show s.next<=s'.next;omega,?_,fun h=>absurd h (List.ne_nil_of_mem y3),g3⟩,Nat.lt_succ_self _,rfl,rfl,by rw[hnxa,<-htl];(refine Am.Ah ?_;repeat (first|exact trivial|refine⟨rfl,?_⟩))⟩
   .rw[fp,hs];simp only[List.append_assoc,List.singleton_append]
   .rw[Ql];exact y6
 .have hs:scan w (f+1) a=([],none):=by
   conv=>lhs;unfold scan
   rw[if_neg Co]
  rw[hs,List.append_nil]at fp;focus
   refine Sq<|Es<|qm U<|Lo (kl U tD U) U<|Lq (Ac U U U U CT U) U<|Lw U ?_;refine Cd U (fun h1=>?_) (fun h1=>?_);exact absurd h1 (by omega);refine Sx<|A8 U ?_;rotate_left
  have hC1:(Cv w).2≠none->D st.next st.heap:=fun h=>by rw[fp]at h;exact absurd rfl h
  refine⟨.inr U,rfl,fun h=>hR s U (Qj _) (fun d h=> .inl h) (fun _=>?_) fun h=>by rw[fp]at h;exact absurd U h,fin st ZR aC (fun _=>by rw[fp];exact hCj) hC1⟩;rw[fp,ZE h];exact hC
end Go.Proofs.YtfhimfcbphepeaaGreatDoor.Ty
open Go Am
namespace Am
theorem Aq {E:Env} {a:Code} {fr:Fr} {l:Sl} {s:St} {Q:Ex->Fr->Sl->St->Prop} (h:∀s',s'=s->Cz E a fr l s' Q):Cz E a fr l s Q:=h s rfl
theorem Ht {s:St} {b:Nat} {v x:AV} {e:TypeId} {part:Bool} (hg:s.heap.get b=some (.cells [x] e part)) (hv:v= .Ca\/∃b o n k c,v= .slice b o n k c):bG 1 s v (.ptr b 0)=some (s.put b (some (.cells [v] e part))):=by
 rcases hv with rfl|⟨_,_,_,_,_,rfl⟩<;>exact Ds hg rfl rfl rfl
theorem Grown.sl {s:St} {e:TypeId} {k n:Nat} {v:AV} {cs:List AV} (h:Grown s e k v cs n):v= .Ca\/∃b o n k c,v= .slice b o n k c:=by
 rcases h with⟨rfl,_⟩|⟨b,rfl,_⟩
 .exact .inl U
 .exact .inr ⟨_,_,_,_,_,U⟩
end Am
namespace Go.Proofs.YtfhimfcbphepeaaGreatDoor.Ty
def rW (nt:Nat) (T:Tr AV) (ps:List Nat) (a b:Code):aY:= {state:= .ready,pending:=none,fn:=0,nt,tmps:=T,params:=ps,assign:=a,body:=b}
theorem Md {s:St} {nt:Nat} {T:Tr AV} {ps:List Nat} {a b:Code}:(XH s nt T ps a b).heap.get (s.next+1)=some (.loop (rW nt T ps a b)):=A4
theorem Me {s:St} {nt:Nat} {T:Tr AV} {ps:List Nat} {a b:Code}:(XH s nt T ps a b).heap.get s.next=some (.defs true):=(Ao (Nat.lt_succ_self _)).trans A4
theorem BB {s:St} {nt:Nat} {T:Tr AV} {ps:List Nat} {a b:Code} {d:Nat} (h:d<s.next):(XH s nt T ps a b).heap.get d=s.heap.get d:=(Ao (Nat.lt_succ_of_lt h)).trans (Ao h)
def errV (e:Int):AV:= .tuple [.Ca,.int .i64 e]
def db (w:List UInt8):AV:=if 3000<w.length then errV 3 else match(Cv w).2 with
 |some _=>errV 4
 |none=>fz (Cv w).1 0
theorem LY (w:List UInt8):∀(f a:Nat),(scan w f a).1.length<=f
 |0,_=>Qj _
 |f+1,a=>by
  unfold scan;split
  .split
   .exact Qm _
   .have:=LY w f (ZT w a);show(scan w f _).1.length+1<=f+1;omega
  .exact Qm _
def hp (n:Nat) (h:Tr Cw):St:= {next:=n,bound:=0,log:=[],heap:=h}
structure TkC (w:List UInt8) (lp:aY) (j n:Nat) (h:Tr Cw):Prop where
 g0:h.get 0=some (.cells [.Ca] 88 false)
 g1:h.get 1=some (.cells [.int .i64 0] 31 false)
 g2:∃v,h.get 2=some (.cells [v] 88 false)/\Grown (hp n h) 133 4 v (((Cv w).1.take j).flatMap XG) j/\∀d,C6 d v=true->6<=d
 df:h.get 4=some (.defs true)
 lp:h.get 5=some (.loop lp)
 lt:6<=n
structure TkD (n:Nat) (h:Tr Cw):Prop where
 g0:h.get 0=some (.cells [.Ca] 88 false)
 g1:h.get 1=some (.cells [.int .i64 4] 31 false)
 df:h.get 4=some (.defs true)
 lp:∃lp,h.get 5=some (.loop lp)/\lp.state= .done/\lp.pending=some .ret
theorem KA {fr:Fr} {l:Sl} {st:St} {v u:AV} {e:Int} (hd:fr.defers=[{target:= .collected 4,args:=[]}]) (h2:Am.look 2 l=some (.ptr 0 0)) (h3:Am.look 3 l=some (.ptr 1 0)) (g0:st.heap.get 0=some (.cells [v] 88 false)) (g1:st.heap.get 1=some (.cells [.int .i64 e] 31 false))
 (g4:st.heap.get 4=some (.defs true)) (hb:st.bound=0) (hl:st.log=[]) (hf:∀ZD,(∀c,c≠4->ZD.heap.get c=st.heap.get c)->ZD.next=st.next->∃ks,Cs ZD 0 40 (.tuple [v,.int .i64 e]) []=some (u,ks)) (hu:Cr 0 40 u=true) {ex:Ex} (hex:ex= .ret\/ex= .normal):
 (ex= .ret\/ex= .normal)/\∃ZD,Zm fr.defers st=some ZD/\ZD.log=[]/\ZD.bound=0/\∃vs w ks,CI (EK Kp) ZD l (Tryz.f76).results.toList=some vs/\Cs ZD 0 40 (ck vs) []=some (w,ks)/\Cr 0 40 w=true/\w=u:=by
 obtain⟨s',e1,e2,e3,e4,e5⟩:=Ep (rs:=[4]) (s:=st) (List.nodup_cons.2 ⟨(fun h=>by cases h),List.nodup_nil⟩) (fun q hq=>by rw[Qn.1 hq];exact g4);have off:∀c,c≠4->s'.heap.get c=st.heap.get c:=fun c hc=>e5 c fun h=>hc (Qn.1 h);obtain⟨ks,hf⟩:=hf s' off e2;refine⟨hex,s',by rw[hd];exact e1,(e4 hb).trans hl,e3.trans hb,[v,.int .i64 e],u,ks,?_,hf,hu,U⟩;exact DS h2 ag_88 rQ ((off 0 (by decide)).trans g0) U (DS h3 rN rM ((off 1 (by decide)).trans g1) U U)
theorem MX {sB:St} {nt:Nat} {T:Tr AV} {ps:List Nat} {a b:Code} {w:List UInt8} {R:AV->St->Prop} (hw:w.length<=4000)
 (g0:sB.heap.get 0=some (.cells [.Ca] 88 false)) (g1:sB.heap.get 1=some (.cells [.int .i64 0] 31 false)) (g2:sB.heap.get 2=some (.cells [.Ca] 88 false))
 (g3:sB.heap.get 3=some (.cells [.str w] 9 false)) (nB:sB.next=4)
 (hy:∀j (hj:j<(Cv w).1.length) (s0 st:St),6<=st.bound->st.bound<=s0.next->st.next=s0.next+1->(∀d,d<s0.next->st.heap.get d=s0.heap.get d)->TkC w (rW nt T ps a b) j s0.next s0.heap->Yields (EK Kp) 5 [.agg (XG (Cv w).1[j]),.bool true] st fun v s'=>v=true/\Gd 5 3 s0.next st s'/\TkC w (rW nt T ps a b) (j+1) s'.next s'.heap)
 (hn:∀(k a' l:Int) (t:List UInt8) (s0 st:St),6<=st.bound->st.bound<=s0.next->st.next=s0.next+1->(∀d,d<s0.next->st.heap.get d=s0.heap.get d)->TkC w (rW nt T ps a b) (Cv w).1.length s0.next s0.heap->Yields (EK Kp) 5 [.agg [.int .i64 k,.str t,.int .i64 a',.int .i64 l],.bool false] st fun v s'=>v=false/\Gd 5 3 s0.next st s'/\TkD s'.next s'.heap)
 (k:∀s3,s3.bound=(XH sB nt T ps a b).bound->(∀d∈s3.log,d∈sB.log\/d<(XH sB nt T ps a b).bound)->((Cv w).2=none->TkC w (rW nt T ps a b) (Cv w).1.length s3.next s3.heap)->((Cv w).2≠none->TkD s3.next s3.heap)->R (.tuple []) s3):
 VZ (EK Kp) 133 [.func (.yield (sB.next+1)) [] [],.ptr 3 0] (XH sB nt T ps a b) R:=by
 have hn6:(XH sB nt T ps a b).next=6:=by show sB.next+2=6;rw[nB]
 rw[nB];refine Rx (base:=6) (C:=TkC w (rW nt T ps a b)) (D:=TkD) ⟨hy,hn,by decide⟩ hw (by rw[hn6];exact Qj _) ?_ (by omega) ((BB (by omega)).trans g3) fun s' h1 _ h3 h4 h5=>k s' h1 h3 h4 h5;refine⟨(BB (by omega)).trans g0,(BB (by omega)).trans g1,⟨.Ca,(BB (by omega)).trans g2,Grown.nil _ _ _,fun d h=>by cases h⟩,?_,?_,by rw[hn6];exact Qj _⟩
 .rw[show 4=sB.next from nB.symm];exact Me
 .rw[show 5=sB.next+1 by omega];exact Md
theorem Th (w:List UInt8) (hw:w.length<=4000):Cc (EK Kp) 76 [.str w] S0 (db w):=by
 refine HQ (fn:=Tryz.f76) (by kernel_rfl) U (by kernel_rfl) U U U U ?_;unfold db;by_cases hl:3000<w.length
 .rw[if_pos hl];focus
   refine Eh U<|Sq<|Es<|qm U<|Lq (Ac U U U U CT U) U<|Lw U ?_;refine Cd U (fun h1=>?_) (fun h1=>?_);refine Eh U ?_;rotate_left;exact absurd h1 (by omega)
  refine Se ?_;exact⟨.inl U,_,U,U,U,_,_,_,Nu U ag_88 rQ U U (Nu U rN rM U U U),U,U,U⟩
 .rw[if_neg hl];focus
   refine Eh U<|Sq<|Es<|qm U<|Lq (Ac U U U U CT U) U<|Lw U ?_;refine Cd U (fun h1=>?_) (fun h1=>?_);exact absurd h1 (by omega);refine Sk<|Eh U<|Sq<|Es<|qm U<|AT (fn:=Tryz.f67) (by kernel_rfl) (by kernel_rfl) U U U U U U U U U U U<|Eh U<|Ew U ?_;refine Se (Al (Xw.new U (Aa U U) U U U U ?_));refine Ld<|Sb ?_;rotate_left
  refine Aq fun sB W6=>?_;have g0:sB.heap.get 0=some (.cells [.Ca] 88 false):=by rw[W6];exact AD 0
  have g1:sB.heap.get 1=some (.cells [.int .i64 0] 31 false):=by rw[W6];exact AD 1
  have g2:sB.heap.get 2=some (.cells [.Ca] 88 false):=by rw[W6];exact AD 2
  have g3:sB.heap.get 3=some (.cells [.str w] 9 false):=by rw[W6];exact AD 3
  have nB:sB.next=4:=by rw[W6];rfl
  have bB:sB.bound=0:=by rw[W6];rfl
  have lB:sB.log=[]:=by rw[W6];rfl
  clear W6;refine HM U U (by kernel_rfl) fun T ir=>?_;have hT:Has [(4,.ptr 2 0),(3,.ptr 1 0),(2,.ptr 0 0)] T:=ir.sub (Ah (by repeat' constructor));clear ir;refine MX hw g0 g1 g2 g3 nB ?_ ?_ ?_
  .intro j hj s0 st q1 q2 q3 q4 hC;refine⟨_,_,_,(q4 5 (by have:=hC.lt;omega)).trans hC.lp,U,(hT.put 12 _).put 13 _,?_⟩;rcases htk:(Cv w).1[j]with⟨kd,tx,ta,tl⟩;have Co:=hC.lt;have cc:=Bg (st:=st) (z:=[.int .i64 0,.str [],.int .i64 0,.int .i64 0]) (cs:=[.int .i64 (kd:Nat),.str tx,.int .i64 (ta:Nat),.int .i64 (tl:Nat)]) (T:=133);have a1:=cc.h1;dsimp only[XG];refine Es<|Lo (kz U) U<|Ln (kw U a1 U) U<|Ld<|Sr<|Lw U ?_;refine⟨U,_,(cc.h4 5 (by omega)).trans ((q4 5 (by omega)).trans hC.lp),U,?_⟩;refine Aq fun sX WZ=>?_;have xo:∀d,d≠5->d<st.next->sX.heap.get d=st.heap.get d:=fun d hd h=>by rw[WZ];exact(Aw.trans (if_neg hd)).trans (cc.h4 d h)
   have xt:sX.heap.get st.next=some (.cells [.int .i64 (kd:Nat),.str tx,.int .i64 (ta:Nat),.int .i64 (tl:Nat)] 133 false):=by rw[WZ];exact(Aw.trans (if_neg (by omega))).trans cc.h2
   have xl:=(congrArg (fun s=>s.heap.get 5) WZ).trans (Aw.trans (if_pos rfl));have bX:sX.bound=st.bound:=by rw[WZ];exact cc.h5
   have nX:sX.next=st.next+1:=by rw[WZ];exact cc.h7
   have mX:5∈sX.log:=by rw[WZ];exact Bk (Nat.lt_of_lt_of_eq (show 5<st.bound by omega) cc.h5.symm)
   have lX:∀d∈sX.log,d∈st.log\/d<st.bound:=fun d hd=>by
    rw[WZ]at hd;rcases AR hd with h|⟨_,h⟩
    .exact .inl (by rw[<-cc.h6 (by omega)];exact h)
    .exact .inr (by rw[<-cc.h5];exact h)
   obtain⟨v,g2',gr,ho⟩:=hC.g2;have x2:=(xo 2 (by decide) (by omega)).trans ((q4 2 (by omega)).trans g2');have grX:Grown sX 133 4 v (((Cv w).1.take j).flatMap XG) j:=gr.Wd (by show s0.next<=sX.next;omega) fun c hc=>by
    have h1:c<s0.next:=gr.own hc;have h2:=ho c hc;exact(xo c (by omega) (by omega)).trans (q4 c h1)
   refine Sb<|Sq<|Ew U<|Tf U<|Sk<|Sr<|Lo (kl U x2 U) U<|Lo (kL U xt U) U<|Lo (AC U Aaa Bw rR U U U) U ?_;have zc:((Cv w).1.take j).length=j:=by rw[List.length_take];omega
   have hscl:=LY w (w.length+1) (Ci false w);have hjl:j<w.length+1:=Nat.lt_of_lt_of_le hj hscl;refine BP grX U (by decide) U (AH (by omega) (by decide)) U U U U Aaa Bw we rR (by kernel_rfl) (by kernel_rfl) U U U U U fun v2 bN gr2 ow2 ch2 lg2=>?_;have own2:∀d,d<6->C6 d v=false:=fun d h=>by
    cases h2:C6 d v with
    |false=>rfl
    |true=>have:=ho d h2;omega
   have yo:∀d,d<6->d≠2->d≠5->(bN.put 2 (some (.cells [v2] 88 false))).heap.get d=s0.heap.get d:=fun d h1 h2 h3=>(Aw.trans (if_neg h2)).trans ((ch2.heap d (by omega) (by rw[own2 d h1];exact Bool.false_ne_true)).trans ((xo d h3 (by omega)).trans (q4 d (by omega))));have y2:=(ch2.heap 2 (by omega) (by rw[own2 2 (by decide)];exact Bool.false_ne_true)).trans x2;have yt:bN.heap.get s0.next=st.heap.get s0.next:=(ch2.heap s0.next (by omega) (fun h=>by have:=gr.own h;have:s0.next<s0.next:=this;omega)).trans (xo s0.next (by omega) (by omega));have yl:=(ch2.heap 5 (by omega) (by rw[own2 5 (by decide)];exact Bool.false_ne_true)).trans xl;have lb2:Ct sX bN:=lg2 (by omega);refine Ln (BD U rQ U U (Ht y2 gr2.sl)) U<|Ld ?_;refine⟨U,_,(Aw.trans (if_neg (by decide))).trans yl,?_⟩;have n2:=ch2.next
   refine⟨rfl,⟨by show st.next<=bN.next;omega,ch2.bound.trans bX,AN (AN (lb2.more 5 mX)),fun d hd=>?_,?_,?_⟩,?_⟩
   .rcases AR hd with h|⟨h,_⟩
    .rcases AR h with h|⟨h,_⟩
     .rcases ch2.log d h with h|⟨h,_⟩
      .exact lX d h
      .exact .inr (by rw[<-bX];exact h)
     .exact .inr (by omega)
    .exact .inr (by omega)
   .exact(Aw.trans (if_neg (by decide))).trans ((yo 3 (by decide) (by decide) (by decide)).trans (q4 3 (by omega)).symm)
   .exact(Aw.trans (if_neg (by omega))).trans ((Aw.trans (if_neg (by omega))).trans yt)
   .refine⟨(Aw.trans (if_neg (by decide))).trans ((yo 0 (by decide) (by decide) (by decide)).trans hC.g0),(Aw.trans (if_neg (by decide))).trans ((yo 1 (by decide) (by decide) (by decide)).trans hC.g1),⟨v2,(Aw.trans (if_neg (by decide))).trans (Aw.trans (if_pos U)),?_,fun d h=>by have:=ow2 d h;omega⟩,(Aw.trans (if_neg (by decide))).trans ((yo 4 (by decide) (by decide) (by decide)).trans hC.df),Aw.trans (if_pos U),by show 6<=bN.next;omega⟩;rw[List.take_add_one,Qi hj,htk,Option.toList_some,List.flatMap_append];refine gr2.Wd (Qj _) fun c hc=>?_;have:=ow2 c hc;have h5:c≠5:=by omega
    have h2:c≠2:=by omega
    exact(Aw.trans (if_neg h5)).trans (Aw.trans (if_neg h2))
  .intro k a l t s0 st q1 q2 q3 q4 hC;refine⟨_,_,_,(q4 5 (by have:=hC.lt;omega)).trans hC.lp,U,(hT.put 12 _).put 13 _,?_⟩;have Co:=hC.lt;have cc:=Bg (st:=st) (z:=[.int .i64 0,.str [],.int .i64 0,.int .i64 0]) (cs:=[.int .i64 k,.str t,.int .i64 a,.int .i64 l]) (T:=133);have a1:=cc.h1;refine Es<|Lo (kz U) U<|Ln (kw U a1 U) U<|Ld<|Sr<|Lw U ?_;refine⟨U,_,(cc.h4 5 (by omega)).trans ((q4 5 (by omega)).trans hC.lp),U,?_⟩;refine Aq fun sX WZ=>?_;have xo:∀d,d≠5->d<st.next->sX.heap.get d=st.heap.get d:=fun d hd h=>by rw[WZ];exact(Aw.trans (if_neg hd)).trans (cc.h4 d h)
   have xl:=(congrArg (fun s=>s.heap.get 5) WZ).trans (Aw.trans (if_pos rfl));have bX:sX.bound=st.bound:=by rw[WZ];exact cc.h5
   have nX:sX.next=st.next+1:=by rw[WZ];exact cc.h7
   have mX:5∈sX.log:=by rw[WZ];exact Bk (Nat.lt_of_lt_of_eq (show 5<st.bound by omega) cc.h5.symm)
   have lX:∀d∈sX.log,d∈st.log\/d<st.bound:=fun d hd=>by
    rw[WZ]at hd;rcases AR hd with h|⟨_,h⟩
    .exact .inl (by rw[<-cc.h6 (by omega)];exact h)
    .exact .inr (by rw[<-cc.h5];exact h)
   have x0:=(xo 0 (by decide) (by omega)).trans ((q4 0 (by omega)).trans hC.g0);have x1:(sX.put 0 (some (.cells [.Ca] 88 false))).heap.get 1=some (.cells [.int .i64 0] 31 false):=(Aw.trans (if_neg (by decide))).trans ((xo 1 (by decide) (by omega)).trans ((q4 1 (by omega)).trans hC.g1));refine Sb<|Sq<|Ew U<|Tt U<|Es ?_;iterate 2 refine Ln (kw U ‹_› U) U ?_
   refine Ld<|Se ?_;have p5:=(Aw (s:=sX.put 0 (some (.cells [.Ca] 88 false))) (b:=1) (c:=5) (o:=some (.cells [.int .i64 4] 31 false))).trans ((if_neg (by decide)).trans ((Aw.trans (if_neg (by decide))).trans xl));refine⟨U,_,p5,?_⟩;refine⟨rfl,⟨by show st.next<=sX.next;omega,bX,AN (AN (AN mX)),fun d hd=>?_,?_,?_⟩,?_⟩
   .rcases AR hd with h|⟨h,_⟩
    .rcases AR h with h|⟨h,_⟩
     .rcases AR h with h|⟨h,_⟩
      .exact lX d h
      .exact .inr (by omega)
     .exact .inr (by omega)
    .exact .inr (by omega)
   .exact(Aw.trans (if_neg (by decide))).trans ((Aw.trans (if_neg (by decide))).trans ((Aw.trans (if_neg (by decide))).trans (xo 3 (by decide) (by omega))))
   .exact(Aw.trans (if_neg (by omega))).trans ((Aw.trans (if_neg (by omega))).trans ((Aw.trans (if_neg (by omega))).trans (xo s0.next (by omega) (by omega))))
   .exact⟨(Aw.trans (if_neg (by decide))).trans ((Aw.trans (if_neg (by decide))).trans (Aw.trans (if_pos U))),(Aw.trans (if_neg (by decide))).trans (Aw.trans (if_pos U)),(Aw.trans (if_neg (by decide))).trans ((Aw.trans (if_neg (by decide))).trans ((Aw.trans (if_neg (by decide))).trans ((xo 4 (by decide) (by omega)).trans ((q4 4 (by omega)).trans hC.df)))),_,Aw.trans (if_pos U),U,U⟩
  .intro s3 e1 e3 e4 e5;have bR:s3.bound=0:=e1.trans bB;have lR:s3.log=[]:=List.eq_nil_iff_forall_not_mem.2 fun d hd=>by
    rcases e3 d hd with h|h
    .rw[lB]at h;cases h
    .have h:d<sB.bound:=h;omega
   rw[nB];cases hx:(Cv w).2 with
   |none=>
    have hC:=e4 hx;refine⟨_,hC.lp,(fun h=>by cases h),?_⟩;show Cz (EK Kp) _ _ _ _ _;obtain⟨v,g2',gr,ho⟩:=hC.g2;rw[List.take_length]at gr;refine Aq fun sZ p9=>?_;have zo:∀c,c≠5->sZ.heap.get c=s3.heap.get c:=fun c hc=>by rw[p9];exact Aw.trans (if_neg hc)
    have z0:=(zo 0 (by decide)).trans hC.g0;have z1:=(zo 1 (by decide)).trans hC.g1;have z2:=(zo 2 (by decide)).trans g2';have z4:=(zo 4 (by decide)).trans hC.df;have bZ:sZ.bound=0:=by rw[p9];exact bR
    have lZ:sZ.log=[]:=by rw[p9];exact(Ez bR).trans lR
    have grZ:Grown sZ 133 4 v ((Cv w).1.flatMap XG) (Cv w).1.length:=gr.Wd (by rw[p9];exact Qj _) fun c hc=>zo c (by have:=ho c hc;omega);clear p9;refine Es<|Lo (kl U z2 U) U<|Ln (BD U rQ U U (Ht z0 grZ.sl)) U ?_;have z1':=(Aw (s:=sZ) (b:=0) (c:=1) (o:=some (.cells [v] 88 false))).trans ((if_neg (by decide)).trans z1);refine Ln (kw U z1' U) U<|Ld ?_;have ry:∀c,C6 c v=true->c≠0/\c≠1/\c≠4:=fun c hc=>by have:=ho c hc;omega
    obtain⟨_,_,hu⟩:=Ip (n:=0) grZ;refine Se ?_;refine KA (v:=v) (e:=0) U U U ((Aw.trans (if_neg (by decide))).trans (Aw.trans (if_pos U))) (Aw.trans (if_pos U)) ((Aw.trans (if_neg (by decide))).trans ((Aw.trans (if_neg (by decide))).trans z4)) bZ ((Ez (s:=sZ.put 0 _) bZ).trans ((Ez bZ).trans lZ)) (fun ZD h1 h2=>?_) hu (.inl U);obtain⟨ks,hf,_⟩:=Ip (n:=0) (grZ.Wd (s':=ZD) (Nat.le_of_eq h2.symm) fun c hc=>(h1 c (ry c hc).2.2).trans ((Aw.trans (if_neg (ry c hc).2.1)).trans (Aw.trans (if_neg (ry c hc).1))));exact⟨ks,hf⟩
   |some a=>
    have hD:=e5 (by rw[hx];exact fun h=>by cases h);obtain⟨lp,l1,l2,l3⟩:=hD.lp;refine⟨lp,l1,(by rw[l2];exact fun h=>by cases h),?_⟩;rw[l3]
    skip
    exact KA (v:= .Ca) (e:=4) U U U ((Aw.trans (if_neg (by decide))).trans hD.g0) ((Aw.trans (if_neg (by decide))).trans hD.g1) ((Aw.trans (if_neg (by decide))).trans hD.df) bR ((Ez bR).trans lR) (fun _ _ _=>⟨[],rfl⟩) U (.inl U)
noncomputable def Kq:=W7 Kp 76 (fun p: {w:List UInt8//w.length<=4000}=>[.str p.1]) (fun p=>db p.1)
theorem hq_76 {w:List UInt8} (hw:w.length<=4000):Kq 76 [.str w]=some (db w):=
 An (enc:=fun p: {w:List UInt8//w.length<=4000}=>[.str p.1]) (fun a b h=>by rw[show a.1=b.1 from AV.str.inj (List.cons.inj h).1]) ⟨w,hw⟩
theorem allq (h:Wq Tryz.prog 8 [] (.bool true)):Cq Tryz.prog gn Kq:=
 A3 Ax Aj (allp h) (fun p=>Th p.1 p.2) (fun _=>rfl) (fun p=>by
  unfold db;split
  .rfl
  .split
   .rfl
   .exact I6 _ _)
end Go.Proofs.YtfhimfcbphepeaaGreatDoor.Ty
