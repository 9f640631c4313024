/- Code: the types; strings, names, registers. -/
import Derived.Test.YtpihdbhocgcbpaaGreatDoorAmH
import Derived.Test.YtpihdbhocgcbpaaGreatDoorProg
import Derived.KernelRfl
set_option linter.unusedSectionVars false
set_option linter.unusedVariables false
set_option linter.unusedSimpArgs false
open Go Am
namespace Go.Proofs.YtpihdbhocgcbpaaGreatDoor
noncomputable abbrev jL (m:Nat) (K:FuncId->List AV->Option AV):c_:=qU Tryz.prog 1200 1200 m K
noncomputable abbrev EK (K:FuncId->List AV->Option AV):c_:=jL 0 K
end Go.Proofs.YtpihdbhocgcbpaaGreatDoor
open Go Am
namespace Go.Proofs.YtpihdbhocgcbpaaGreatDoor.Wy
def frzW (f:FuncId):Nat:=bif Nat.beq f 123||(Nat.beq f 42||Nat.beq f 46)then 2 else 1
noncomputable abbrev EK (K:FuncId->List AV->Option AV):c_:=np Tryz.prog 1200 1200 frzW K (fun _=>none)
end Go.Proofs.YtpihdbhocgcbpaaGreatDoor.Wy
open Go Am
namespace Go.Proofs.YtpihdbhocgcbpaaGreatDoor
noncomputable def Zm:ia:= {a:=[(3,some (.int .i64),some 1,some false,some false),(26,some (.slice 3),some 1,some false,some false),(22,some (.slice 54),some 1,some false,some false),(39,none,some 3,some true,some false),(36,some (.slice 39),some 1,some false,some false),(25,some (.slice 58),some 1,some false,some false),(37,some (.int .i64),some 1,some false,some false),(329,none,some 1,some false,some false),(28,none,some 4,some true,some false),(58,none,some 7,some true,some false),(56,some (.slice 60),some 1,some false,some false),(55,some (.int .i64),some 1,some false,some false),(41,none,some 6,some true,some false),(24,none,some 2,some true,some false),(54,none,some 2,some true,some false),(330,some (.array 16 329),some 16,some true,some false),(9,some .string,some 1,some false,some false),(4,some .bool,some 1,some false,some false),(114,none,some 2,some true,some false),(98,none,some 6,some true,some false),(117,none,some 1,some true,some false),(84,some (.map 3 3),some 1,some false,some false),(152,none,some 2,some true,some false),(161,none,some 6,some true,some false),(31,some (.int .i64),some 1,some false,some false),(119,none,some 3,some true,some false),(60,none,some 2,some true,some false),(85,some (.slice 161),some 1,some false,some false),(90,some (.slice 98),some 1,some false,some false),(146,none,some 1,some false,some false),(167,none,some 0,some true,some false),(253,some (.int .u64),some 1,some false,some false),(336,none,some 2,some true,some false),(150,some (.slice 152),some 1,some false,some false),(166,none,some 0,some true,some false),(21,some (.int .i32),some 1,some false,some false),(121,none,some 1,some true,some false),(155,some (.map 9 4),some 1,some false,some false),(82,none,some 1,some true,some false),(106,some (.slice 9),some 1,some false,some false),(362,none,some 1,some false,some false),(111,none,some 1,some false,some true),(5,some (.int .u8),some 1,some false,some false),(143,none,some 1,some false,some false),(212,some (.int .u64),some 1,some false,some false),(20,none,some 1,some false,some true),(87,none,some 9,some true,some false),(96,none,some 2,some true,some false)],c:=[(1536,some (0,1,false)),(1537,some (1,1,false)),(1792,some (0,2,true)),(1793,some (2,1,false)),(1794,some (3,1,false)),(2496,some (0,1,false)),(2497,some (1,1,false)),(2498,some (2,1,false)),(2624,some (0,1,false)),(2625,some (1,1,false)),(2626,some (2,3,true)),(2627,some (5,1,false)),(3456,some (0,1,false)),(3457,some (1,1,false)),(3712,some (0,1,false)),(3713,some (1,1,false)),(3714,some (2,1,false)),(3715,some (3,1,false)),(3716,some (4,1,false)),(3717,some (5,1,false)),(3718,some (6,1,false)),(3840,some (0,1,false)),(3841,some (1,1,false)),(5248,some (0,1,false)),(5568,some (0,4,true)),(5569,some (4,1,false)),(5570,some (5,1,false)),(5571,some (6,1,false)),(5572,some (7,1,false)),(5573,some (8,1,false)),(6144,some (0,1,false)),(6145,some (1,1,false)),(6272,some (0,1,false)),(6273,some (1,1,false)),(6274,some (2,1,false)),(6275,some (3,1,false)),(6276,some (4,1,false)),(6277,some (5,1,false)),(7296,some (0,1,false)),(7297,some (1,1,false)),(7488,some (0,1,false)),(7616,some (0,1,false)),(7617,some (1,1,false)),(7618,some (2,1,false)),(7744,some (0,1,false)),(9728,some (0,1,false)),(9729,some (1,1,false)),(10304,some (0,1,false)),(10305,some (1,1,false)),(10306,some (2,1,false)),(10307,some (3,1,false)),(10308,some (4,1,false)),(10309,some (5,1,false)),(21504,some (0,2,true))],b:=[(3,some (.int .i64 0)),(4,some (.bool false)),(9,some (.aG [])),(26,some .Ca),(31,some (.int .i64 0)),(39,some (.O [.int .i64 0,.int .i64 0,.Ca])),(41,some (.O [.int .i64 0,.Ca,.int .i64 0,.int .i64 0,.Ca,.int .i64 0])),(54,some (.O [.aG [],.int .i64 0])),(58,some (.O [.int .i64 0,.int .i64 0,.Ca,.Ca,.int .i64 0,.int .i64 0,.Ca])),(60,some (.O [.int .i64 0,.int .i64 0])),(82,some (.O [.int .i64 0])),(98,some (.O [.bool false,.bool false,.bool false,.int .i64 0,.int .i64 0,.Ca])),(114,some (.O [.int .i64 0,.Ca])),(117,some (.O [.Ca])),(119,some (.O [.int .i64 0,.int .i64 0,.Ca])),(121,some (.O [.int .i64 0])),(143,some .C7),(146,some .C7),(152,some (.O [.int .i64 0,.int .i64 0])),(155,some .WZ),(161,some (.O [.bool false,.bool false,.bool false,.int .i64 0,.int .i64 0,.Ca])),(166,some (.O [])),(167,some (.O [])),(330,some (.O [.C7,.C7,.C7,.C7,.C7,.C7,.C7,.C7,.C7,.C7,.C7,.C7,.C7,.C7,.C7,.C7])),(362,some .C7)],e:=[(39,some ([.int .i64 0,.int .i64 0,.Ca],l_ [(0,1),(1,1),(2,1)])),(41,some ([.int .i64 0,.Ca,.int .i64 0,.int .i64 0,.Ca,.int .i64 0],l_ [(0,1),(1,1),(2,3),(5,1)])),(54,some ([.aG [],.int .i64 0],l_ [(0,1),(1,1)])),(82,some ([.int .i64 0],l_ [(0,1)])),(87,some ([.Ca,.Ca,.Ca,.Ca,.int .i64 0,.Ca,.Ca,.WZ,.int .i64 0],l_ [(0,4),(4,1),(5,1),(6,1),(7,1),(8,1)])),(96,some ([.Ca,.WZ],l_ [(0,1),(1,1)])),(98,some ([.bool false,.bool false,.bool false,.int .i64 0,.int .i64 0,.Ca],l_ [(0,1),(1,1),(2,1),(3,1),(4,1),(5,1)])),(114,some ([.int .i64 0,.Ca],l_ [(0,1),(1,1)])),(117,some ([.Ca],l_ [(0,1)])),(119,some ([.int .i64 0,.int .i64 0,.Ca],l_ [(0,1),(1,1),(2,1)])),(121,some ([.int .i64 0],l_ [(0,1)])),(152,some ([.int .i64 0,.int .i64 0],l_ [(0,1),(1,1)])),(161,some ([.bool false,.bool false,.bool false,.int .i64 0,.int .i64 0,.Ca],l_ [(0,1),(1,1),(2,1),(3,1),(4,1),(5,1)])),(166,some ([],l_ [])),(167,some ([],l_ [])),(330,some ([.C7,.C7,.C7,.C7,.C7,.C7,.C7,.C7,.C7,.C7,.C7,.C7,.C7,.C7,.C7,.C7],fun i=>some (i*1,1))),(336,some ([.Ca,.Ca],l_ [(0,2)]))],d:=[(3,some Tryz.f3),(4,some Tryz.f4),(9,some Tryz.f9),(11,some Tryz.f11),(12,some Tryz.f12),(13,some Tryz.f13),(14,some Tryz.f14),(15,some Tryz.f15),(16,some Tryz.f16),(17,some Tryz.f17),(18,some Tryz.f18),(24,some Tryz.f24),(25,some Tryz.f25),(33,some Tryz.f33),(34,some Tryz.f34),(35,some Tryz.f35),(36,some Tryz.f36),(37,some Tryz.f37),(38,some Tryz.f38),(40,some Tryz.f40),(41,some Tryz.f41),(42,some Tryz.f42),(43,some Tryz.f43),(44,some Tryz.f44),(45,some Tryz.f45),(46,some Tryz.f46),(47,some Tryz.f47),(51,some Tryz.f51),(59,some Tryz.f59),(60,some Tryz.f60),(67,some Tryz.f67),(68,some Tryz.f68),(69,some Tryz.f69),(70,some Tryz.f70),(71,some Tryz.f71),(72,some Tryz.f72),(73,some Tryz.f73),(74,some Tryz.f74),(75,some Tryz.f75),(76,some Tryz.f76),(77,some Tryz.f77),(78,some Tryz.f78),(79,some Tryz.f79),(80,some Tryz.f80),(81,some Tryz.f81),(82,some Tryz.f82),(83,some Tryz.f83),(84,some Tryz.f84),(85,some Tryz.f85),(86,some Tryz.f86),(87,some Tryz.f87),(88,some Tryz.f88),(89,some Tryz.f89),(104,some Tryz.f104),(105,some Tryz.f105),(106,some Tryz.f106),(107,some Tryz.f107),(108,some Tryz.f108),(109,some Tryz.f109),(119,some Tryz.f119),(120,some Tryz.f120),(121,some Tryz.f121),(122,some Tryz.f122),(123,some Tryz.f123),(124,some Tryz.f124),(125,some Tryz.f125),(140,some Tryz.f140),(160,some Tryz.f160),(161,some Tryz.f161),(200,some Tryz.f200),(201,some Tryz.f201),(202,some Tryz.f202),(237,some Tryz.f237),(238,some Tryz.f238),(284,some Tryz.f284),(285,some Tryz.f285),(286,some Tryz.f286),(287,some Tryz.f287),(288,some Tryz.f288),(289,some Tryz.f289),(290,some Tryz.f290),(291,some Tryz.f291),(292,some Tryz.f292),(293,some Tryz.f293),(341,some Tryz.f341),(342,some Tryz.f342),(343,some Tryz.f343),(344,some Tryz.f344),(345,some Tryz.f345),(346,some Tryz.f346)],f:=357,ex:=[0,1,162,203,243,248,295,325,326,327,328,329,330,331,332,333,334,335,336,337,338,339,340,347,348,349,350,351,352,353,354,355]}
class Tb (E:c_):Prop where
 a:YX E Zm
instance {m:Nat} {K:FuncId->List AV->Option AV}:Tb (jL m K):=⟨⟨by kernel_rfl,by kernel_rfl,by kernel_rfl,by kernel_rfl,by kernel_rfl,by kernel_rfl⟩⟩
instance {K:FuncId->List AV->Option AV}:Tb (Wy.EK K):=⟨⟨by kernel_rfl,by kernel_rfl,by kernel_rfl,by kernel_rfl,by kernel_rfl,by kernel_rfl⟩⟩
section
variable {E : c_} [Tb E]
theorem ey:Wb E 3=some (.int .i64):=(Tb.a.t rfl).1 _ rfl
theorem D9:Am.an E 3=some 1:=(Tb.a.t rfl).2.1
theorem LJ:Am.j' E 3=some false:=(Tb.a.t rfl).2.2.1
theorem qZ:Am.h_ E 3=some (.int .i64 0):=Tb.a.z rfl
theorem u3:Am.an E 4=some 1:=(Tb.a.t rfl).2.1
theorem xM:Am.j' E 4=some false:=(Tb.a.t rfl).2.2.1
theorem z_4:Am.h_ E 4=some (.bool false):=Tb.a.z rfl
theorem tS:Wb E 9=some .string:=(Tb.a.t rfl).1 _ rfl
theorem Q_:Am.an E 9=some 1:=(Tb.a.t rfl).2.1
theorem ag_9:Am.j' E 9=some false:=(Tb.a.t rfl).2.2.1
theorem z_9:Am.h_ E 9=some (.aG []):=Tb.a.z rfl
theorem if_20:Yp E 20=some true:=(Tb.a.t rfl).2.2.2
theorem ra:Wb E 22=some (.slice 54):=(Tb.a.t rfl).1 _ rfl
theorem Kt:Am.an E 22=some 1:=(Tb.a.t rfl).2.1
theorem KB:Am.j' E 22=some false:=(Tb.a.t rfl).2.2.1
theorem sz_24:Am.an E 24=some 2:=(Tb.a.t rfl).2.1
theorem ag_24:Am.j' E 24=some true:=(Tb.a.t rfl).2.2.1
theorem tT:Am.an E 25=some 1:=(Tb.a.t rfl).2.1
theorem tU:Am.j' E 25=some false:=(Tb.a.t rfl).2.2.1
theorem I1:Wb E 26=some (.slice 3):=(Tb.a.t rfl).1 _ rfl
theorem Iy:Am.an E 26=some 1:=(Tb.a.t rfl).2.1
theorem OE:Am.j' E 26=some false:=(Tb.a.t rfl).2.2.1
theorem xN:Am.an E 31=some 1:=(Tb.a.t rfl).2.1
theorem ag_31:Am.j' E 31=some false:=(Tb.a.t rfl).2.2.1
theorem nr:Wb E 36=some (.slice 39):=(Tb.a.t rfl).1 _ rfl
theorem Gg:Am.an E 36=some 1:=(Tb.a.t rfl).2.1
theorem I0:Am.j' E 36=some false:=(Tb.a.t rfl).2.2.1
theorem sz_37:Am.an E 37=some 1:=(Tb.a.t rfl).2.1
theorem ag_37:Am.j' E 37=some false:=(Tb.a.t rfl).2.2.1
theorem Ks:Am.an E 39=some 3:=(Tb.a.t rfl).2.1
theorem ag_39:Am.j' E 39=some true:=(Tb.a.t rfl).2.2.1
theorem qe:Am.h_ E 39=some (.O [.int .i64 0,.int .i64 0,.Ca]):=Tb.a.z rfl
theorem xO:Am.an E 41=some 6:=(Tb.a.t rfl).2.1
theorem ag_41:Am.j' E 41=some true:=(Tb.a.t rfl).2.2.1
theorem Nf:Am.an E 54=some 2:=(Tb.a.t rfl).2.1
theorem sz_56:Am.an E 56=some 1:=(Tb.a.t rfl).2.1
theorem ag_56:Am.j' E 56=some false:=(Tb.a.t rfl).2.2.1
theorem OZ:Wb E 84=some (.map 3 3):=(Tb.a.t rfl).1 _ rfl
theorem s8:Wb E 85=some (.slice 161):=(Tb.a.t rfl).1 _ rfl
theorem sz_85:Am.an E 85=some 1:=(Tb.a.t rfl).2.1
theorem rb:Wb E 90=some (.slice 98):=(Tb.a.t rfl).1 _ rfl
theorem Kr:Am.an E 98=some 6:=(Tb.a.t rfl).2.1
theorem ag_98:Am.j' E 98=some true:=(Tb.a.t rfl).2.2.1
theorem ri:Am.h_ E 98=some (.O [.bool false,.bool false,.bool false,.int .i64 0,.int .i64 0,.Ca]):=Tb.a.z rfl
theorem xP:Wb E 106=some (.slice 9):=(Tb.a.t rfl).1 _ rfl
theorem JB:Yp E 111=some true:=(Tb.a.t rfl).2.2.2
theorem sz_121:Am.an E 121=some 1:=(Tb.a.t rfl).2.1
theorem z_121:Am.h_ E 121=some (.O [.int .i64 0]):=Tb.a.z rfl
theorem Ma:Wb E 150=some (.slice 152):=(Tb.a.t rfl).1 _ rfl
theorem Gi:Am.an E 152=some 2:=(Tb.a.t rfl).2.1
theorem ag_152:Am.j' E 152=some true:=(Tb.a.t rfl).2.2.1
theorem LV:Am.h_ E 152=some (.O [.int .i64 0,.int .i64 0]):=Tb.a.z rfl
theorem xQ:Wb E 155=some (.map 9 4):=(Tb.a.t rfl).1 _ rfl
theorem G8:Am.an E 161=some 6:=(Tb.a.t rfl).2.1
theorem xR:Am.j' E 161=some true:=(Tb.a.t rfl).2.2.1
theorem Pa:Am.h_ E 161=some (.O [.bool false,.bool false,.bool false,.int .i64 0,.int .i64 0,.Ca]):=Tb.a.z rfl
theorem xS:Wb E 212=some (.int .u64):=(Tb.a.t rfl).1 _ rfl
theorem Fi:Wb E 253=some (.int .u64):=(Tb.a.t rfl).1 _ rfl
theorem sz_330:Am.an E 330=some 16:=(Tb.a.t rfl).2.1
theorem ag_330:Am.j' E 330=some true:=(Tb.a.t rfl).2.2.1
end
section
variable {m : Nat} {K : FuncId -> List AV -> Option AV}
theorem u4:i_ (jL m K) 3=some 8:=by kernel_rfl
theorem nu:aF (jL m K) 3=some (.J (.int .i64)):=by kernel_rfl
theorem by_9:i_ (jL m K) 9=some 16:=by kernel_rfl
theorem kd_9:aF (jL m K) 9=some (.J .string):=by kernel_rfl
theorem VA:i_ (jL m K) 39=some 40:=by kernel_rfl
theorem TE:dz (jL m K) 54=true:=by kernel_rfl
theorem UE:aF (jL m K) 54=some (.O [.string,.int .i64]):=by kernel_rfl
theorem SR:i_ (jL m K) 98=some 48:=by kernel_rfl
theorem O6:i_ (jL m K) 152=some 16:=by kernel_rfl
theorem LG:i_ (jL m K) 161=some 48:=by kernel_rfl
theorem DR:p_ (jL m K) 114 "swingle/code.registers" =some (341,.mk none none):=by kernel_rfl
theorem DQ:p_ (jL m K) 117 "swingle/code.registers" =some (342,.mk none none):=by kernel_rfl
theorem DP:p_ (jL m K) 119 "swingle/code.registers" =some (343,.mk none none):=by kernel_rfl
theorem DO:p_ (jL m K) 121 "swingle/code.registers" =some (344,.mk none none):=by kernel_rfl
theorem DN:p_ (jL m K) 166 "swingle/code.registers" =some (345,.mk none none):=by kernel_rfl
theorem DM:p_ (jL m K) 167 "swingle/code.registers" =some (346,.mk none none):=by kernel_rfl
end
namespace Wy
section
variable {K : FuncId -> List AV -> Option AV}
theorem u4:i_ (EK K) 3=some 8:=by kernel_rfl
theorem nu:aF (EK K) 3=some (.J (.int .i64)):=by kernel_rfl
theorem by_9:i_ (EK K) 9=some 16:=by kernel_rfl
theorem kd_9:aF (EK K) 9=some (.J .string):=by kernel_rfl
theorem VA:i_ (EK K) 39=some 40:=by kernel_rfl
theorem TE:dz (EK K) 54=true:=by kernel_rfl
theorem UE:aF (EK K) 54=some (.O [.string,.int .i64]):=by kernel_rfl
theorem SR:i_ (EK K) 98=some 48:=by kernel_rfl
theorem O6:i_ (EK K) 152=some 16:=by kernel_rfl
theorem LG:i_ (EK K) 161=some 48:=by kernel_rfl
theorem DR:p_ (EK K) 114 "swingle/code.registers" =some (341,.mk none none):=by kernel_rfl
theorem DQ:p_ (EK K) 117 "swingle/code.registers" =some (342,.mk none none):=by kernel_rfl
theorem DP:p_ (EK K) 119 "swingle/code.registers" =some (343,.mk none none):=by kernel_rfl
theorem DO:p_ (EK K) 121 "swingle/code.registers" =some (344,.mk none none):=by kernel_rfl
theorem DN:p_ (EK K) 166 "swingle/code.registers" =some (345,.mk none none):=by kernel_rfl
theorem DM:p_ (EK K) 167 "swingle/code.registers" =some (346,.mk none none):=by kernel_rfl
end
end Wy
section
variable {E : c_} [Tb E] {KP : AV -> Sl -> St -> Prop} {KN : PN} {all ops r rest : List Oper} {o : Oper} {oa : Array Oper} {fr : Fr} {l l' : Sl} {i i' n n' bd : Nat} {b : Code} {lg km : List Nat} {hl ZI : Hl} {Q : Sl -> St -> Prop} {s st : St} {R : Ex -> Fr -> Sl -> St -> Prop} {js : List Nat} {nl : WG}
theorem Lv (k:Nat) (h:qd Zm all fr.nt k ops l=some (r,l')) (hk:CA E KP all r fr l' s Q):CA E KP all ops fr l s Q:=IX Tb.a h hk
theorem Ls (k:Nat) (h:nq Zm all fr.nt bd k ops l n lg hl=some (r,l',n',km,ZI)) (hk:CA E KP all r fr l' (Xc n' bd km ZI) Q):CA E KP all ops fr l (Xc n bd lg hl) Q:=H7 Tb.a h hk
theorem Nv (k:Nat) (h:u0 Zm all fr.nt k ops i l=some (r,i',l')) (hk:Cz E KN all r i' fr l' st js nl Q):Cz E KN all ops i fr l st js nl Q:=Mh Tb.a h hk
theorem Nw (h:u0 Zm all fr.nt ops.length ops i l=some ([],i',l')) (hk:Q l' st):Cz E KN all ops i fr l st js nl Q:=Mh Tb.a h (Cz.done hk)
theorem Lw (h:qd Zm all fr.nt ops.length ops l=some ([],l')) (hk:Q l' s):CA E KP all ops fr l s Q:=segW Tb.a h hk
theorem Lx (h:nq Zm all fr.nt bd ops.length ops l n lg hl=some ([],l',n',km,ZI)) (hk:Q l' (Xc n' bd km ZI)):CA E KP all ops fr l (Xc n bd lg hl) Q:=segX Tb.a h hk
theorem Ew (h:qd Zm oa.toList fr.nt oa.toList.length oa.toList l=some ([],l')) (hk:Cu E b fr l' s R):Cu E (.seq (.region i oa false) b) fr l s R:=segA Tb.a h hk
theorem Eh (h:nq Zm oa.toList fr.nt bd oa.toList.length oa.toList l n lg hl=some ([],l',n',km,ZI)) (hk:Cu E b fr l' (Xc n' bd km ZI) R):Cu E (.seq (.region i oa false) b) fr l (Xc n bd lg hl) R:=segB Tb.a h hk
variable {t yt e f d k off sz x1 : Nat} {x y a c : Operand} {v w p q : AV} {dd : Option TypeDesc} {nn : Option Nat} {aa ii : Option Bool} {rr : Option Nat × Option Bool × Option Bool} {cs Yg args : List AV} {part : Bool} {cl : Call} {ts : List TypeId} {ik : IntKind} {od : Option Nat}
theorem kq (h:qv Zm o.op l=some v):X3 E o l v:=tR Tb.a h
theorem kh (h:hv Zm o.op l n bd lg hl=some (v,n',km,ZI)):Zl E o fr l (Xc n bd lg hl) v (Xc n' bd km ZI):=hv_ok Tb.a h
theorem ka {a b:Nat} (h:(o.op,eK Zm.a t,Cg x l,Cg y l)=(.binOp .add t x y yt,some (some (.int .i64),rr),some (.int .i64 (a:Nat)),some (.int .i64 (b:Nat)))) (hb:a+b<9223372036854775808):X3 E o l (.int .i64 ((a+b:Nat):Int)):=
 have h1:=t2 h;have h2:=t2 h1.2;have h3:=t2 h2.2
 IH h1.1 ((Tb.a.t h2.1).1 _ rfl) h3.1 h3.2 hb
theorem kv {k:Nat} (h:(o.op,eK Zm.a t,eK Zm.a e,Cg x l,Cg y l)=(.indexAddr t x y,some (some (.slice e),rr),some (dd,some (sz+1),aa,ii),some w,some (.int ik (k:Nat)))) (hv:OK (sz+1) k w=some p):X3 E o l p:=
 have h1:=t2 h;have h2:=t2 h1.2;have h3:=t2 h2.2;have h4:=t2 h3.2
 BK h1.1 ((Tb.a.t h2.1).1 _ rfl) (Tb.a.t h3.1).2.1 h4.1 h4.2 hv
theorem kM {b len k:Nat} {cap:Option Nat} (h:(o.op,eK Zm.a t,eK Zm.a e,Cg x l,Cg y l)=(.indexAddr t x y,some (some (.slice e),rr),some (dd,some (sz+1),aa,ii),some (.Z b off len (sz+1) cap),some (.int ik (k:Nat)))) (hk:k<len):X3 E o l (.J b (off+k*(sz+1))):=
 have h1:=t2 h;have h2:=t2 h1.2;have h3:=t2 h2.2;have h4:=t2 h3.2
 Ey h1.1 ((Tb.a.t h2.1).1 _ rfl) (Tb.a.t h3.1).2.1 h4.1 h4.2 hk
theorem kX {m n:Nat} (h:(o.op,eK Zm.a t,eK Zm.a e,Cg x l,Cg y l)=(.indexAddr t x y,some (some (.array n e),rr),some (dd,some (sz+1),aa,ii),some p,some (.int ik (m:Nat)))) (hm:m<n) (hq:YB (m*(sz+1)) p=some q):X3 E o l q:=
 have h1:=t2 h;have h2:=t2 h1.2;have h3:=t2 h2.2;have h4:=t2 h3.2
 KD h1.1 ((Tb.a.t h2.1).1 _ rfl) (Tb.a.t h3.1).2.1 h4.1 h4.2 hm hq
theorem kn (h:(o.op,cl.callee,cl.argTypes.toList,cl.args.toList,eK Zm.a t,Cg x l)=(.call cl,.builtin .len,t::ts,[x],some (some (.slice e),rr),some w)) (hv:Am.aQ w=some v):X3 E o l v:=
 have h1:=t2 h;have h2:=t2 h1.2;have h3:=t2 h2.2;have h4:=t2 h3.2;have h5:=t2 h4.2
 MU h1.1 h2.1 h3.1 h4.1 ((Tb.a.t h5.1).1 _ rfl) h5.2 hv
theorem ks {a b:Int} (h:(o.op,eK Zm.a t,Cg x l,Cg y l)=(.binOp .sub t x y yt,some (some (.int .i64),rr),some (.int .i64 a),some (.int .i64 b))) (hb: -9223372036854775808<=a-b/\a-b<9223372036854775808):X3 E o l (.int .i64 (a-b)):=
 have h1:=t2 h;have h2:=t2 h1.2;have h3:=t2 h2.2
 X3.sub h1.1 ((Tb.a.t h2.1).1 _ rfl) h3.1 h3.2 hb
theorem kl {b:Nat} (h:(o.op,Cg a l,eK Zm.a t)=(.load t a,some (.J b off),some (dd,some k,some false,ii))) (hg:s.b.g b=some (.J cs e part)) (hv:cs[off]?=some v):Zl E o fr l s v s:=
 have h1:=t2 h;have h2:=t2 h1.2;have h3:=Tb.a.t h2.2
 AQ h1.1 h2.1 (AA h3.2.2.1 h3.2.1 hg hv)
theorem kL {b:Nat} (h:(o.op,Cg a l,eK Zm.a t)=(.load t a,some (.J b off),some (dd,some k,some true,ii))) (hg:s.b.g b=some (.J cs e part)) (hn:Nat.ble (off+k) cs.length=true):Zl E o fr l s (.O ((cs.drop off).take k)) s:=
 have h1:=t2 h;have h2:=t2 h1.2;have h3:=Tb.a.t h2.2
 AQ h1.1 h2.1 (Bl h3.2.2.1 h3.2.1 hg (Qc hn))
theorem kw {b:Nat} (h:(o.op,Cg a l,Cg x l,eK Zm.a t)=(.store t a x,some (.J b off),some v,some (dd,some k,aa,ii))) (hg:s.b.g b=some (.J cs e part)) (h2:(v.g.length,v.u,over v.g off cs)=(k,false,some Yg)):Zl E o fr l s (.Y []) (s.z b (some (.J Yg e part))):=
 have h1:=t2 h;have h3:=t2 h1.2;have h4:=t2 h3.2;have h5:=t2 h2;have h6:=t2 h5.2
 BL h1.1 (Tb.a.t h4.2).2.1 h3.1 h4.1 (BH hg h5.1 h6.1 h6.2)
theorem kz {z:AV} (h:(o.op,eK Zm.b t)=(.alloc t,some (some z))):Zl E o fr l s (.J s.a 0) (s.g (.J z.g t false)):=Zl.alloc (t2 h).1 (Tb.a.z (t2 h).2)
theorem kc (h:(o.op,cl.callee,mq Zm f,WC cl.args.toList l)=(.call cl,.value (.func f),true,some args)) (hm:E.d f args=some v):Zl E o fr l s v s:=
 have h1:=t2 h;have h2:=t2 h1.2;have h3:=t2 h2.2
 A7 h1.1 h2.1 (Tb.a.b h3.1) h3.2 (Co.XF hm)
theorem kC (h:(o.op,cl.callee,mq Zm f,WC cl.args.toList l)=(.call cl,.value (.func f),true,some args)) (hm:E.d f args=some v):T_ E o fr l v:=
 have h1:=t2 h;have h2:=t2 h1.2;have h3:=t2 h2.2
 Tp h1.1 h2.1 (Tb.a.b h3.1) h3.2 hm
theorem kV {t:Nat} {first captured:List AV} (h:(o.op,cl.callee,Am.d_ t l,mq Zm f,WC cl.args.toList l)=(.call cl,.value (.tmp t),some (.an (.func f) first captured),true,some args)) (hm:E.d f (first++args++captured)=some v):T_ E o fr l v:=
 have h1:=t2 h;have h2:=t2 h1.2;have h3:=t2 h2.2;have h4:=t2 h3.2
 Q6 h1.1 h2.1 h3.1 (Tb.a.b h4.1) h4.2 hm
theorem kf (h:(o.op,cl.callee,mq Zm f,WC cl.args.toList l,o.guard,o.dst,Nat.blt d fr.nt)=(.call cl,.value (.func f),true,some args,none,some d,true)) (hr:Wm E f args s fun v s'=>CA E KP all rest fr ((d,v)::l) s' Q):CA E KP all (o::rest) fr l s Q:=
 have h1:=t2 h;have h2:=t2 h1.2;have h3:=t2 h2.2;have h4:=t2 h3.2;have h5:=t2 h4.2;have h6:=t2 h5.2
 Q1 h1.1 h2.1 (Tb.a.b h3.1) h4.1 h5.1 h6.1 h6.2 hr
theorem Nm {b:Nat} (h:(o.op,Cg a (CW (b_ o.op.operands.toList) l),eK Zm.a t)=(.load t a,some (.J b off),some (dd,some k,some false,ii))) (hg:st.b.g b=some (.J cs e part)) (hv:cs[off]?=some v) (hG:Wf all l o) (hc:(Xe (CX all i) b nl,o.dst,Wz fr.nt od)=(true,od,true))
 (hk:Cz E KN all rest (i+1) fr (WX od v l) st (i::js) nl Q):Cz E KN all (o::rest) i fr l st js nl Q:=
 have h1:=t2 h;have h2:=t2 h1.2;have h3:=Tb.a.t h2.2;have h4:=t2 hc
 B9 h1.1 h2.1 (AA h3.2.2.1 h3.2.1 hg hv) h4.1 hG (t2 h4.2).1 (t2 h4.2).2 hk
theorem NM {b:Nat} (h:(o.op,Cg a (CW (b_ o.op.operands.toList) l),eK Zm.a t)=(.load t a,some (.J b off),some (dd,some k,some true,ii))) (hg:st.b.g b=some (.J cs e part)) (hn:Nat.ble (off+k) cs.length=true) (hG:Wf all l o) (hc:(Xe (CX all i) b nl,o.dst,Wz fr.nt od)=(true,od,true))
 (hk:Cz E KN all rest (i+1) fr (WX od (.O ((cs.drop off).take k)) l) st (i::js) nl Q):Cz E KN all (o::rest) i fr l st js nl Q:=
 have h1:=t2 h;have h2:=t2 h1.2;have h3:=Tb.a.t h2.2;have h4:=t2 hc
 B9 h1.1 h2.1 (Bl h3.2.2.1 h3.2.1 hg (Qc hn)) h4.1 hG (t2 h4.2).1 (t2 h4.2).2 hk
theorem As {fn:Func} {cb:Code} {l0:Sl} {rs:List ResultVar} (h:(E.g f,E.d f args,eK Zm.d f,fn.body,fn.results.toList,n_ fn.ntmps args none,YW 0 args [])=(1,none,some (some fn),some cb,rs,fr,l0))
 (hk:Cu E cb fr l0 (Xc 0 0 [] []) fun ex fr l st=>(ex= .Y\/ex= .J)/\fr.defers=[]/\st.d=[]/\st.c=0/\∃vs w ks,CK E st l rs=some vs/\C9 st 0 40 (Zi vs) []=some (w,ks)/\CD 0 40 w=true/\w=v):Co E f args S0 v:=
 have h1:=t2 h;have h3:=t2 h1.2;have h4:=t2 h3.2;have h5:=t2 h4.2;have h6:=t2 h5.2;have h7:=t2 h6.2
 Dz h1.1 h3.1 (Tb.a.g h4.1) h5.1 h6.1 h7.1 h7.2 hk
theorem Ar {fn:Func} {cb:Code} {l0:Sl} {rs:List ResultVar} {RV RP:AV->St->Prop} (h:(E.d f args,eK Zm.d f,fn.body,fn.results.toList,n_ fn.ntmps args none,YW 0 args [])=(none,some (some fn),some cb,rs,fr,l0))
 (hk:Cu E cb fr l0 s.u (sw E f rs s RV RP)):VX E f args s RV RP:=
 have h3:=t2 h;have h4:=t2 h3.2;have h5:=t2 h4.2;have h6:=t2 h5.2;have h7:=t2 h6.2
 VX.gen h3.1 (Tb.a.g h4.1) h5.1 h6.1 h7.1 h7.2 hk
end
section
variable {E : c_} {fr : Fr} {l : Sl} {s : St} {Q : Ex -> Fr -> Sl -> St -> Prop} {a b : Code} {i : Nat} {x : Operand} {ops : Array Oper}
theorem Ln {KP:AV->Sl->St->Prop} {o:Oper} {all rest:List Oper} {v:AV} {s':St} {Q:Sl->St->Prop} (ho:Zl E o fr l s v s') (hg:(o.guard,o.dst)=(none,none)) (h:CA E KP all rest fr l s' Q):CA E KP all (o::rest) fr l s Q:=Hz ho (t2 hg).1 (t2 hg).2 h
theorem Na {KN:PN} {all rest:List Oper} {o:Oper} {i:Nat} {js:List Nat} {nl:WG} {Q:Sl->St->Prop} {od:Option Nat} {v:AV} (ho:T_ E o fr (CW (b_ o.op.operands.toList) l) v) (hG:Wf all l o) (hc:(o.dst,Wz fr.nt od)=(od,true)) (hk:Cz E KN all rest (i+1) fr (WX od v l) s (i::js) nl Q):Cz E KN all (o::rest) i fr l s js nl Q:=Cz.aG ho hG (t2 hc).1 (t2 hc).2 hk
theorem Sq (h:Cu E a fr l s (uz E b Q)):Cu E (.seq a b) fr l s Q:=B0 h
theorem Sk (h:Q .J fr l s):Cu E .skip fr l s Q:=Cu.skip h
theorem Sb (h:Cu E b fr l s (ss i Q)):Cu E (.block i b) fr l s Q:=Cu.block h
theorem Sx (h:Q (.Z i) fr l s):Cu E (.exit i) fr l s Q:=Ko h
theorem Sr (h:CA E (fun v l s=>Q (.O v) fr l s) ops.toList ops.toList fr l s (Q .J fr)):Cu E (.region i ops false) fr l s Q:=Do h
theorem Tt (hx:Cg x l=some (.bool true)) (h:Cu E a fr l s Q):Cu E (.cond x a b) fr l s Q:=LR hx rfl h
theorem Tf (hx:Cg x l=some (.bool false)) (h:Cu E b fr l s Q):Cu E (.cond x a b) fr l s Q:=Ib hx rfl h
theorem Se (h:Q .Y fr l s):Cu E .ret fr l s Q:=A9 h
theorem Cb {t:Nat} {c:Bool} (hx:Am.d_ t l=some (.bool c)) (h1:c=true->Cu E a fr ((t,.bool true)::l) s Q) (h0:c=false->Cu E b fr ((t,.bool false)::l) s Q):Cu E (.cond (.tmp t) a b) fr l s Q:=EH hx h1 h0
theorem Cd {t:Nat} {p:Prop} {dp:Decidable p} (hx:Am.d_ t l=some (.bool (decide p))) (h1:p->Cu E a fr ((t,.bool true)::l) s Q) (h0:¬p->Cu E b fr ((t,.bool false)::l) s Q):Cu E (.cond (.tmp t) a b) fr l s Q:=EH hx (fun g=>h1 (of_decide_eq_true g)) fun g=>h0 (of_decide_eq_false g)
theorem Ce {t:Nat} {p:Prop} {dp:Decidable p} (hx:Am.d_ t l=some (.bool (!decide p))) (h1:¬p->Cu E a fr ((t,.bool true)::l) s Q) (h0:p->Cu E b fr ((t,.bool false)::l) s Q):Cu E (.cond (.tmp t) a b) fr l s Q:=EH hx (fun g=>h1 (nT g)) fun g=>h0 (nF g)
theorem Cn {t:Nat} {c:Bool} (hx:Am.d_ t l=some (.bool (!c))) (h1:c=false->Cu E a fr ((t,.bool true)::l) s Q) (h0:c=true->Cu E b fr ((t,.bool false)::l) s Q):Cu E (.cond (.tmp t) a b) fr l s Q:=EH hx (fun g=>h1 (HF g)) fun g=>h0 (HG g)
theorem Bb {KP:AV->Sl->St->Prop} {all rest:List Oper} {o oj:Oper} {K:Sl->St->Prop} {j e:Nat} {w b:Bool} (hg:(o.guard,l_ all j,oj.dst,Am.d_ e l)=(some (j,w),some oj,some e,some (.bool b)))
 (h1:b=true->CA E KP all (o::rest) fr ((e,.bool true)::l) s K) (h0:b=false->CA E KP all (o::rest) fr ((e,.bool false)::l) s K):CA E KP all (o::rest) fr l s K:=By (t2 (t2 (t2 hg).2).2).2 h1 h0
variable {KP : AV -> Sl -> St -> Prop} {KN : PN} {all rest : List Oper} {o oj : Oper} {K : Sl -> St -> Prop} {j e : Nat} {w : Bool} {js : List Nat} {nl : WG}
theorem Bd {p:Prop} {dp:Decidable p} (hg:(o.guard,l_ all j,oj.dst,Am.d_ e l)=(some (j,w),some oj,some e,some (.bool (decide p))))
 (h1:p->CA E KP all (o::rest) fr ((e,.bool true)::l) s K) (h0:¬p->CA E KP all (o::rest) fr ((e,.bool false)::l) s K):CA E KP all (o::rest) fr l s K:=Bb hg (fun g=>h1 (of_decide_eq_true g)) fun g=>h0 (of_decide_eq_false g)
theorem Be {p:Prop} {dp:Decidable p} (hg:(o.guard,l_ all j,oj.dst,Am.d_ e l)=(some (j,w),some oj,some e,some (.bool (!decide p))))
 (h1:¬p->CA E KP all (o::rest) fr ((e,.bool true)::l) s K) (h0:p->CA E KP all (o::rest) fr ((e,.bool false)::l) s K):CA E KP all (o::rest) fr l s K:=Bb hg (fun g=>h1 (nT g)) fun g=>h0 (nF g)
theorem Bn {c:Bool} (hg:(o.guard,l_ all j,oj.dst,Am.d_ e l)=(some (j,w),some oj,some e,some (.bool (!c))))
 (h1:c=false->CA E KP all (o::rest) fr ((e,.bool true)::l) s K) (h0:c=true->CA E KP all (o::rest) fr ((e,.bool false)::l) s K):CA E KP all (o::rest) fr l s K:=Bb hg (fun g=>h1 (HF g)) fun g=>h0 (HG g)
theorem Db {b:Bool} (hg:(o.guard,l_ all j,oj.dst,Am.d_ e l)=(some (j,w),some oj,some e,some (.bool b)))
 (h1:b=true->Cz E KN all (o::rest) i fr ((e,.bool true)::l) s js nl K) (h0:b=false->Cz E KN all (o::rest) i fr ((e,.bool false)::l) s js nl K):Cz E KN all (o::rest) i fr l s js nl K:=have h2:=t2 hg;have h3:=t2 h2.2;have h4:=t2 h3.2;SY h2.1 h3.1 h4.1 h4.2 h1 h0
theorem Dd {p:Prop} {dp:Decidable p} (hg:(o.guard,l_ all j,oj.dst,Am.d_ e l)=(some (j,w),some oj,some e,some (.bool (decide p))))
 (h1:p->Cz E KN all (o::rest) i fr ((e,.bool true)::l) s js nl K) (h0:¬p->Cz E KN all (o::rest) i fr ((e,.bool false)::l) s js nl K):Cz E KN all (o::rest) i fr l s js nl K:=Db hg (fun g=>h1 (of_decide_eq_true g)) fun g=>h0 (of_decide_eq_false g)
theorem gG (h:(o.guard,l_ all j,oj.dst,Am.d_ e l)=(some (j,w),some oj,some e,some (.bool w))):Wf all l o:=have h2:=t2 h;have h3:=t2 h2.2;have h4:=t2 h3.2;AF h2.1 h3.1 h4.1 h4.2 rfl
theorem Nz {od:Option Nat} {v:AV} (ho:X3 E o (CW (b_ o.op.operands.toList) l) v) (hg:(o.guard,l_ all j,oj.dst,Am.d_ e l)=(some (j,w),some oj,some e,some (.bool w))) (hd:(o.dst,Wz fr.nt od)=(od,true)) (h:Cz E KN all rest (i+1) fr (WX od v l) s js nl K):Cz E KN all (o::rest) i fr l s js nl K:=Kj ho (gG hg) (t2 hd).1 (t2 hd).2 h
end
def K0:FuncId->List AV->Option AV:=fun f args=>match f with
 |10=>match args with
  | []=>some (.bool true)
  |_=>none
 |_=>none
theorem Au:Zd Tryz.prog 1200 1200:=⟨dT (by kernel_rfl),dT (by kernel_rfl),by kernel_rfl,by kernel_rfl⟩
theorem xU (h:Wh Tryz.prog 10 [] (.bool true)):C6 Tryz.prog K0:=by
 intro f args v hv;unfold K0 at hv;split at hv
 .split at hv
  .cases hv;exact h
  .cases hv
 .cases hv
def X1 (n a b:Int):Bool:=decide (a<=n)&&decide (n<=b)
section
variable {K : FuncId -> List AV -> Option AV} (n a b : Int)
theorem in0_to (hK:K 76=fun _=>none):Co (EK K) 76 [.int .i64 n,.int .i64 a,.int .i64 b] S0 (.bool (X1 n a b)):=by
 refine Dz (fn:=Tryz.f76) U (by show K 76 _=none;rw[hK]) (by kernel_rfl) U U U U ?_;focus
  refine Ew U<|Es<|Lv 4 U ?_;refine Bb U (fun g1=>?_) (fun g1=>?_);have h1:=dT g1;refine Lw U ?_;refine A9 (Er U ?_);refine Aa ?_;rotate_left;have h1:=dF g1;refine Lw U ?_;refine A9 (Er U ?_);refine Aa ?_;rotate_left
 all_goals (unfold X1;rw[g1];rfl)
theorem in1_to (hK:K 43=fun _=>none):Co (EK K) 43 [.int .i64 n,.int .i64 a,.int .i64 b] S0 (.bool (X1 n a b)):=by
 refine Dz (fn:=Tryz.f43) U (by show K 43 _=none;rw[hK]) (by kernel_rfl) U U U U ?_;focus
  refine Ew U<|Es<|Lv 4 U ?_;refine Bb U (fun g1=>?_) (fun g1=>?_);have h1:=dT g1;refine Lw U ?_;refine A9 (Er U ?_);refine Aa ?_;rotate_left;have h1:=dF g1;refine Lw U ?_;refine A9 (Er U ?_);refine Aa ?_;rotate_left
 all_goals (unfold X1;rw[g1];rfl)
theorem in2_to (hK:K 104=fun _=>none):Co (EK K) 104 [.int .i64 n,.int .i64 a,.int .i64 b] S0 (.bool (X1 n a b)):=by
 refine Dz (fn:=Tryz.f104) U (by show K 104 _=none;rw[hK]) (by kernel_rfl) U U U U ?_;focus
  refine Ew U<|Es<|Lv 4 U ?_;refine Bb U (fun g1=>?_) (fun g1=>?_);have h1:=dT g1;refine Lw U ?_;refine A9 (Er U ?_);refine Aa ?_;rotate_left;have h1:=dF g1;refine Lw U ?_;refine A9 (Er U ?_);refine Aa ?_;rotate_left
 all_goals (unfold X1;rw[g1];rfl)
theorem in3_to (hK:K 37=fun _=>none):Co (EK K) 37 [.int .i64 n,.int .i64 a,.int .i64 b] S0 (.bool (X1 n a b)):=by
 refine Dz (fn:=Tryz.f37) U (by show K 37 _=none;rw[hK]) (by kernel_rfl) U U U U ?_;focus
  refine Ew U<|Es<|Lv 4 U ?_;refine Bb U (fun g1=>?_) (fun g1=>?_);have h1:=dT g1;refine Lw U ?_;refine A9 (Er U ?_);refine Aa ?_;rotate_left;have h1:=dF g1;refine Lw U ?_;refine A9 (Er U ?_);refine Aa ?_;rotate_left
 all_goals (unfold X1;rw[g1];rfl)
end
noncomputable def K1a:=WA K0 76 (fun p:Int×Int×Int=>[.int .i64 p.1,.int .i64 p.2.1,.int .i64 p.2.2]) (fun p=> .bool (X1 p.1 p.2.1 p.2.2))
noncomputable def K1b:=WA K1a 43 (fun p:Int×Int×Int=>[.int .i64 p.1,.int .i64 p.2.1,.int .i64 p.2.2]) (fun p=> .bool (X1 p.1 p.2.1 p.2.2))
noncomputable def K1c:=WA K1b 104 (fun p:Int×Int×Int=>[.int .i64 p.1,.int .i64 p.2.1,.int .i64 p.2.2]) (fun p=> .bool (X1 p.1 p.2.1 p.2.2))
noncomputable def K1:=WA K1c 37 (fun p:Int×Int×Int=>[.int .i64 p.1,.int .i64 p.2.1,.int .i64 p.2.2]) (fun p=> .bool (X1 p.1 p.2.1 p.2.2))
section
variable {n a b : Int}
theorem E7:K1a 76 [.int .i64 n,.int .i64 a,.int .i64 b]=some (.bool (X1 n a b)):=Ak (by rintro⟨a,b,c⟩ ⟨d,e,f⟩ h;cases h;rfl) (n,a,b)
theorem Du:K1b 43 [.int .i64 n,.int .i64 a,.int .i64 b]=some (.bool (X1 n a b)):=Ak (by rintro⟨a,b,c⟩ ⟨d,e,f⟩ h;cases h;rfl) (n,a,b)
theorem D1:K1c 104 [.int .i64 n,.int .i64 a,.int .i64 b]=some (.bool (X1 n a b)):=Ak (by rintro⟨a,b,c⟩ ⟨d,e,f⟩ h;cases h;rfl) (n,a,b)
theorem Ff:K1 37 [.int .i64 n,.int .i64 a,.int .i64 b]=some (.bool (X1 n a b)):=Ak (by rintro⟨a,b,c⟩ ⟨d,e,f⟩ h;cases h;rfl) (n,a,b)
end
theorem all1 (h:Wh Tryz.prog 10 [] (.bool true)):C6 Tryz.prog K1:=by
 have a0:=xU h;have a1:C6 Tryz.prog K1a:=AG a0 fun p=>BM Au a0 (in0_to p.1 p.2.1 p.2.2 rfl) rfl rfl;have a2:C6 Tryz.prog K1b:=AG a1 fun p=>BM Au a1 (in1_to p.1 p.2.1 p.2.2 rfl) rfl rfl;have a3:C6 Tryz.prog K1c:=AG a2 fun p=>BM Au a2 (in2_to p.1 p.2.1 p.2.2 rfl) rfl rfl;exact AG a3 fun p=>BM Au a3 (in3_to p.1 p.2.1 p.2.2 U) U U
def X7 (n:Int):Bool:=(decide (97<=n)&&decide (n<=122))||(decide (65<=n)&&decide (n<=90))
def ez (w:List UInt8):Bool:=decide (tw X7 w=w.length)&&X1 w.length 1 8
theorem P0 {w:List UInt8} (h:tw X7 w<w.length):ez w=false:=by
 unfold ez;rw[decide_eq_false (by omega)];rfl
theorem DS {w:List UInt8} {i:Nat} (hi:i<=tw X7 w) (h:i<w.length) (hn:X7 (w.getD i 0).toNat=false):ez w=false:=
 P0 (by
  have:=(Pe hi h).2;have:¬i<tw X7 w:=fun C5=>by rw[this C5]at hn;cases hn
  omega)
theorem FQ {w:List UInt8} {i:Nat} (hi:i<=tw X7 w) (h:i<w.length) (hn:X7 (w.getD i 0).toNat=true):i+1<=tw X7 w:=(Pe hi h).1 hn
theorem Lj (n:Int):X7 n=true↔(97<=n/\n<=122)\/(65<=n/\n<=90):=by
 unfold X7;simp only[Bool.or_eq_true,Qf,decide_eq_true_eq]
theorem GU {n:Int} (h:(97<=n/\n<=122)\/(65<=n/\n<=90)):X7 n=true:=(Lj n).2 h
theorem Dh {n:Int} (h:¬((97<=n/\n<=122)\/(65<=n/\n<=90))):X7 n=false:=by
 cases hb:X7 n with
 |false=>rfl
 |true=>exact absurd ((Lj n).1 hb) h
theorem name_to (w:List UInt8) (hw:w.length<=4000):Co (EK K1) 140 [.aG w] S0 (.bool (ez w)):=by
 refine As U ?_;have hle:=tw_le X7 w;refine Ew U<|Sq<|Ew U<|Sb ?_;refine Ai (fun i:Nat=>([(3,.int .i64 (i:Nat)),(0,.aG w)],Xc 0 0 [] [])) (fun i=>w.length-i) (fun i=>i<=tw X7 w) 0 (Qo _) U (Ab (by repeat' constructor)) fun i hi=>?_;focus
  refine Sq<|Es<|Lv 2 U<|Lq (EG U U U U tS U) U<|Lw U ?_;refine Cd U (fun h1=>?_) (fun h1=>?_);refine Sk<|Sq<|Sb<|Es<|Lv 2 U ?_;refine Lq (DF U tS U U (by omega)) U ?_;refine Lv 2 U ?_;refine Bd U (fun h2=>?_) (fun h2=>?_);refine Lv 8 U ?_;refine Lh U U (DF U tS U U (by omega)) ?_;refine Lv 2 U ?_;refine Bd U (fun h3=>?_) (fun h3=>?_);refine Lw U<|Tt U<|Ew U ?_;refine Se (Er U ?_);refine Aa ?_;rotate_left;refine Lv 2 U ?_;refine Lh U U (DF U tS U U (by omega)) ?_;refine Lw U ?_;refine Cd U (fun h4=>?_) (fun h4=>?_);refine Ew U ?_;refine Se (Er U ?_);refine Aa ?_;rotate_left;refine Sk<|Sr<|qm U ?_;refine Lq (ka (b:=1) U (by omega)) U ?_;refine Lw U ?_;rotate_left;refine Lv 2 U ?_;refine Lh U U (DF U tS U U (by omega)) ?_;refine Lv 3 U ?_;refine Bd U (fun h5=>?_) (fun h5=>?_);refine Lv 2 U ?_;refine Lh U U (DF U tS U U (by omega)) ?_;refine Lv 2 U ?_
  refine Bd U (fun h6=>?_) (fun h6=>?_);exact absurd h6 (by omega);refine Lv 2 U ?_;refine Lh U U (DF U tS U U (by omega)) ?_;refine Lw U ?_;refine Cd U (fun h7=>?_) (fun h7=>?_);refine Ew U ?_;refine Se (Er U ?_);refine Aa ?_;rotate_left;exact absurd h7 (by omega);refine Lw U<|Tf U<|Sk<|Sr<|qm U ?_;refine Lq (ka (b:=1) U (by omega)) U ?_;refine Lw U ?_;rotate_left;refine Sx<|A0 U<|Es<|qm U<|Lq (EG U U U U tS U) U ?_;refine Lo (kc U (D1)) U<|Lw U ?_;refine Se (Er U ?_);refine Aa ?_;rotate_left
 .exact(DS hi (by omega) (Dh (by omega))).symm
 .exact(DS hi (by omega) (Dh (by omega))).symm
 .exact⟨i+1,FQ hi (by omega) (GU (by omega)),by show w.length-(i+1)<w.length-i;omega,U,U,Ab (by repeat' constructor)⟩
 .exact(DS hi (by omega) (Dh (by omega))).symm
 .exact⟨i+1,FQ hi (by omega) (GU (by omega)),by show w.length-(i+1)<w.length-i;omega,U,U,Ab (by repeat' constructor)⟩
 .have e:tw X7 w=w.length:=by omega
  unfold ez;rw[decide_eq_true e];rfl
noncomputable def K1n:=WA K1 140 (fun w: {w:List UInt8//w.length<=4000}=>[.aG w.1]) (fun w=> .bool (ez w.1))
theorem hit_140 {w:List UInt8} (hw:w.length<=4000):K1n 140 [.aG w]=some (.bool (ez w)):=
 Ak (enc:=fun w: {w:List UInt8//w.length<=4000}=>[.aG w.1]) (by rintro⟨a,_⟩ ⟨b,_⟩ h;cases h;rfl) ⟨w,hw⟩
theorem RQ (w:List UInt8) (hw:w.length<=4000):Co (EK K1n) 75 [.aG w] S0 (.bool (ez w)):=by
 refine As U ?_;have hle:=tw_le X7 w;refine Ew U<|Sq<|Es<|qm U<|Lo (MV 1 U tS U U) U<|Ld<|Sb ?_;refine Ai (fun x:Nat×St=>([(6,.J 0 0),(0,.aG w)],x.2)) (fun x=>w.length-x.1) (fun x=>x.1<=tw X7 w/\x.2.c=0/\x.2.d=[]/\x.2.b.g 0=some (.Ym w x.1)) (0,Xc 1 0 [] [(0,some (.Ym w 0))]) ⟨Qo _,rfl,rfl,AM 0⟩ U (Ab (by repeat' constructor)) ?_;rintro⟨i,st⟩ ⟨hi,YH,Yc,hg⟩;dsimp only at hi YH Yc hg|-;refine Es ?_;rcases Nat.lt_or_ge i w.length with h|h
 .by_cases hc:(w.getD i 0).toNat<128
  .refine Lo (Q4 U U hg h hc) U ?_;focus
    refine Lw U<|Sq<|Tt U<|Sk<|Sb<|Ew U<|Es<|Lv 3 U ?_;refine Bd U (fun h1=>?_) (fun h1=>?_);refine Lv 4 U ?_;refine Bd U (fun h2=>?_) (fun h2=>?_);refine Lw U<|Tf U<|Sk ?_;rotate_left;refine Lv 3 U ?_;refine Bd U (fun h3=>?_) (fun h3=>?_);refine Lw U ?_;refine Ce U (fun h4=>?_) (fun h4=>?_);refine Ew U ?_;rotate_left;exact absurd h4 (by omega);exact absurd h3 (by omega);refine Lv 7 U ?_;refine Bd U (fun h5=>?_) (fun h5=>?_);refine Lw U ?_;refine Ce U (fun h6=>?_) (fun h6=>?_);refine Ew U ?_;rotate_left;refine Sk ?_;rotate_left;refine Lw U<|Tt U<|Ew U ?_;rotate_left
   .exact⟨(i+1,st.z 0 (some (.Ym w (i+1)))),⟨FQ hi h (GU (by omega)),YH,(Bv YH).trans Yc,by rw[Ah,if_pos rfl]⟩,by show w.length-(i+1)<w.length-i;omega,U,U,Ab (by repeat' constructor)⟩
   .try refine Se ⟨.inl rfl,rfl,(Bv YH).trans Yc,YH,_,_,_,(Ac rfl rfl),rfl,rfl,?_⟩
    rw[DS hi h (Dh (by omega))];rfl
   .try refine Se ⟨.inl rfl,rfl,(Bv YH).trans Yc,YH,_,_,_,(Ac rfl rfl),rfl,rfl,?_⟩
    rw[DS hi h (Dh (by omega))];rfl
   .exact⟨(i+1,st.z 0 (some (.Ym w (i+1)))),⟨FQ hi h (GU (by omega)),YH,(Bv YH).trans Yc,by rw[Ah,if_pos rfl]⟩,by show w.length-(i+1)<w.length-i;omega,U,U,Ab (by repeat' constructor)⟩
   .try refine Se ⟨.inl rfl,rfl,(Bv YH).trans Yc,YH,_,_,_,(Ac rfl rfl),rfl,rfl,?_⟩
    rw[DS hi h (Dh (by omega))];rfl
  .obtain⟨r,d,hr,ho⟩:=OW hg h hc;refine Lo (ho U U) U ?_;focus
    refine Lw U<|Sq<|Tt U<|Sk<|Sb<|Ew U<|Es<|Lv 3 U ?_;refine Bd U (fun h1=>?_) (fun h1=>?_);refine Lv 4 U ?_;refine Bd U (fun h2=>?_) (fun h2=>?_);exact absurd h2 (by omega);refine Lv 3 U ?_;refine Bd U (fun h3=>?_) (fun h3=>?_);refine Lw U ?_;refine Ce U (fun h4=>?_) (fun h4=>?_);refine Ew U ?_;rotate_left;exact absurd h4 (by omega);exact absurd h3 (by omega);exact absurd h1 (by omega)
   .try refine Se ⟨.inl rfl,rfl,(Bv YH).trans Yc,YH,_,_,_,(Ac rfl rfl),rfl,rfl,?_⟩
    rw[DS hi h (Dh (by omega))];rfl
 .refine Lo (Q5 U U hg (by omega)) U ?_;refine Lw U<|Sq<|Tf U<|Sx<|A0 U<|Es<|qm U<|Lq (EG U U U U tS U) U ?_;refine Lo (kc U (E7)) U<|Lw U ?_;refine Se ⟨.inl U,U,Yc,YH,_,_,_,(Ac U U),U,U,?_⟩;refine Aa ?_;try refine Se ⟨.inl rfl,rfl,Yc,YH,_,_,_,(Ac rfl rfl),rfl,rfl,?_⟩
  have e:tw X7 w=w.length:=by omega
  unfold ez;rw[decide_eq_true e];rfl
noncomputable def K1s:=WA K1n 75 (fun w: {w:List UInt8//w.length<=4000}=>[.aG w.1]) (fun w=> .bool (ez w.1))
theorem hit_75 {w:List UInt8} (hw:w.length<=4000):K1s 75 [.aG w]=some (.bool (ez w)):=
 Ak (enc:=fun w: {w:List UInt8//w.length<=4000}=>[.aG w.1]) (by rintro⟨a,_⟩ ⟨b,_⟩ h;cases h;rfl) ⟨w,hw⟩
theorem all1s (h:Wh Tryz.prog 10 [] (.bool true)):C6 Tryz.prog K1s:=by
 have a1:C6 Tryz.prog K1n:=AG (all1 h) fun p=>BM Au (all1 h) (name_to p.1 p.2) rfl rfl;exact AG a1 fun p=>BM Au a1 (RQ p.1 p.2) U U
theorem Rr {α:Type} {enc:α->List AV} {k:Nat} (hi:∀a b,enc a=enc b->a=b) (hl:∀a,(enc a).length=k+1):∀ {l m:List α},l.flatMap enc=m.flatMap enc->l=m
 | [],[],_=>rfl
 | [],b::m,h=>by
  have:=congrArg List.length h;rw[List.flatMap_cons,Qm,hl b,List.flatMap_nil,List.length_nil]at this;omega
 |a::l,[],h=>by
  have:=congrArg List.length h;rw[List.flatMap_cons,Qm,hl a,List.flatMap_nil,List.length_nil]at this;omega
 |a::l,b::m,h=>by
  rw[List.flatMap_cons,List.flatMap_cons]at h;obtain⟨h1,h2⟩:=List.append_inj h ((hl a).trans (hl b).symm);rw[hi a b h1,Rr hi hl h2]
theorem AT {α:Type} {enc:α->List AV} {k:Nat} (hi:∀a b,enc a=enc b->a=b) (hl:∀a,(enc a).length=k+1) {l m:List α} (h:Cq enc (k+1) l=Cq enc (k+1) m):l=m:=by
 unfold Cq at h;exact Rr hi hl (AV.Ck.inj h).1
abbrev Cw:=List UInt8×Int
def Ok (p:Cw):List AV:=[.aG p.1,.int .i64 p.2]
theorem Av (p:Cw):(Ok p).length=1+1:=rfl
theorem Dc (a b:Cw) (h:Ok a=Ok b):a=b:=by
 obtain⟨a1,a2⟩:=a;obtain⟨b1,b2⟩:=b;cases h;rfl
def Ze (l:List Cw) (i:Nat):Bool:=(l.take i).all fun p=>decide (p.1.length<=30)
theorem H6 {l:List Cw} {i:Nat} (h:i<l.length):Ze l (i+1)=(Ze l i&&decide (l[i].1.length<=30)):=by
 unfold Ze;rw[List.take_add_one,Qi h,Option.toList_some,List.all_append];simp
theorem TF {l:List Cw} {i:Nat} (h:Ze l l.length=true) (hi:i<=l.length):Ze l i=true:=by
 unfold Ze at h|-;rw[List.take_length]at h;exact List.all_eq_true.2 fun x hx=>List.all_eq_true.1 h x (List.mem_of_mem_take hx)
theorem QK {l:List Cw} {i:Nat} (h:i<l.length) (hn:¬l[i].1.length<=30):Ze l l.length=false:=by
 cases hb:Ze l l.length with
 |false=>rfl
 |true=>
  have:=TF hb h;rw[H6 h,decide_eq_false hn,Bool.and_false]at this;cases this
def Yu (c f:List Cw):Bool:= !(decide (16<(c.length:Int))||decide (12<(f.length:Int)))&&(Ze c c.length&&Ze f f.length)
theorem Pk (c f:List Cw):Co (EK K1s) 25 [.O [Cq Ok 2 c,Cq Ok 2 f]] S0 (.bool (Yu c f)):=by
 refine As U ?_;focus
  refine Eh U<|Sq<|Es<|Ls 5 U ?_;refine Bb U (fun g1=>?_) (fun g1=>?_);have h1:=dT g1;refine Lw U<|Tt U<|Ew U ?_;refine Se (Er U ?_);refine Aa ?_;rotate_left;have h1:=dF g1;refine Lx U ?_;refine Cb U (fun g2=>?_) (fun g2=>?_);have h2:=dT g2;refine Ew U ?_;refine A9 (Er U ?_);refine Aa ?_;rotate_left;have h2:=dF g2;refine Cu.skip<|B0<|Ew U<|Cu.block ?_;rotate_left
 .unfold Yu;rw[g1];rfl
 .unfold Yu;rw[g1,g2];rfl
 refine Ai (fun i:Nat=>([(3,.int .i64 (i:Nat)),(1,.J 0 0)],Xc 1 0 [] [(0,some (.J [Cq Ok 2 c,Cq Ok 2 f] 24 false))])) (fun i=>c.length-i) (fun i=>i<=c.length/\Ze c i=true) 0 ⟨Qo _,rfl⟩ U (Ab (by repeat' constructor)) ?_;rintro i ⟨hi,hs⟩;dsimp only at hi hs|-;by_cases h:i<c.length
 .have hp:=Af Av h;focus
   refine Sq<|Eh U ?_;refine Cd U (fun h3=>?_) (fun h3=>?_);refine Sk<|Sq<|Sb<|Es<|Ls 3 U<|Lq (kv U hp) U<|Lv 2 U<|Lq (EG U U U U tS U) U<|Lw U ?_;refine Cd U (fun h4=>?_) (fun h4=>?_);refine Ew U ?_;refine Se (Er U ?_);refine Aa ?_;rotate_left;refine Sk<|Sr<|qm U ?_;refine Lq (ka (b:=1) U (by omega)) U ?_;refine Lw U ?_;rotate_left;exact absurd h3 (by omega)
  .have hc:Ze c c.length=false:=QK h (by omega);unfold Yu;rw[hc,Bool.false_and,Bool.and_false]
  .exact⟨i+1,⟨h,by rw[H6 h,hs,decide_eq_true (show c[i].1.length<=30 by omega)];rfl⟩,by show c.length-(i+1)<c.length-i;omega,U,U,Ab (by repeat' constructor)⟩
 .focus
   refine Sq<|Eh U ?_;refine Cd U (fun h3=>?_) (fun h3=>?_);exact absurd h3 (by omega);refine Sx<|A0 U<|Sq<|Ew U<|Sb ?_;rotate_left
  obtain rfl:i=c.length:=by omega
  refine Ai (fun i:Nat=>([(4,.int .i64 (i:Nat)),(1,.J 0 0)],Xc 1 0 [] [(0,some (.J [Cq Ok 2 c,Cq Ok 2 f] 24 false))])) (fun i=>f.length-i) (fun i=>i<=f.length/\Ze f i=true) 0 ⟨Qo _,rfl⟩ U (Ab (by repeat' constructor)) ?_;rintro j ⟨hj,jm⟩;dsimp only at hj jm|-;by_cases h2:j<f.length
  .have hp:=Af Av h2;focus
    refine Sq<|Eh U ?_;refine Cd U (fun h4=>?_) (fun h4=>?_);refine Sk<|Sq<|Sb<|Es<|Ls 3 U<|Lq (kv U hp) U<|Lv 2 U<|Lq (EG U U U U tS U) U<|Lw U ?_;refine Cd U (fun h5=>?_) (fun h5=>?_);refine Ew U ?_;refine Se (Er U ?_);refine Aa ?_;rotate_left;refine Sk<|Sr<|qm U ?_;refine Lq (ka (b:=1) U (by omega)) U ?_;refine Lw U ?_;rotate_left;exact absurd h4 (by omega)
   .have hc:Ze f f.length=false:=QK h2 (by omega);unfold Yu;rw[hc,Bool.and_false,Bool.and_false]
   .exact⟨j+1,⟨h2,by rw[H6 h2,jm,decide_eq_true (show f[j].1.length<=30 by omega)];rfl⟩,by show f.length-(j+1)<f.length-j;omega,U,U,Ab (by repeat' constructor)⟩
  .focus
    refine Sq<|Eh U ?_;refine Cb U (fun g4=>?_) (fun g4=>?_);have h4:=dT g4;exact absurd h4 (by omega);have h4:=dF g4;refine Ko<|A0 U<|Ew U ?_;refine A9 (Er U ?_);refine Aa ?_;rotate_left
   obtain rfl:j=f.length:=by omega
   unfold Yu;rw[g1,g2,hs,jm];rfl
noncomputable def K2:=WA K1s 25 (fun p:List Cw×List Cw=>[.O [Cq Ok 2 p.1,Cq Ok 2 p.2]]) (fun p=> .bool (Yu p.1 p.2))
theorem MD {p q:List Cw×List Cw} (h:([.O [Cq Ok 2 p.1,Cq Ok 2 p.2]]:List AV)=[.O [Cq Ok 2 q.1,Cq Ok 2 q.2]]):p=q:=by
 simp only[List.cons.injEq,AV.O.injEq,and_true]at h;exact Prod.ext (AT Dc Av h.1) (AT Dc Av h.2)
theorem hit_25 {c f:List Cw}:K2 25 [.O [Cq Ok 2 c,Cq Ok 2 f]]=some (.bool (Yu c f)):=
 Ak (fun p q h=>by rw[MD h]) (c,f)
theorem all2 (h:Wh Tryz.prog 10 [] (.bool true)):C6 Tryz.prog K2:=Aw Au (all1s h) (fun p=>Pk p.1 p.2) (fun _=>rfl) (fun _=>rfl)
def oJ (before:List (List UInt8)) (p:Cw):Bool:= !(before.contains p.1)&&(ez p.1&&X1 p.2 0 4)
def WK:List (List UInt8)->List Cw->Option (List (List UInt8))
 |bs,[]=>some bs
 |bs,p::l=>if oJ bs p then WK (bs++[p.1]) l else none
def fC:List (List UInt8)->AV
 | []=> .Ca
 |a::l=> .Ck ((a::l).map .aG) (a::l).length 1 true
theorem QI {l:List (List UInt8)} (h:l≠ []):fC l= .Ck (l.map .aG) l.length 1 true:=by
 cases l with
 |nil=>exact absurd rfl h
 |cons a l=>rfl
theorem IT (l:List (List UInt8)):(l.map AV.aG).all (Cr 40)=true:=by
 rw[List.all_map];exact List.all_eq_true.2 fun _ _=>rfl
theorem KK (l:List (List UInt8)):(l.map AV.aG).all aL=true:=by
 rw[List.all_map];exact List.all_eq_true.2 fun _ _=>rfl
theorem bK.ln {s:St} {v:AV} {l:List (List UInt8)} (h:bK s v l) (hn:l=[]->v= .Ca) (m:Nat):∃ks,C9 s 0 (m+2) v []=some (fC l,ks):=by
 rcases h with⟨rfl,rfl⟩|⟨cl,rfl⟩|⟨b,off,cap,cs,e,part,rfl,hb,hg,h1,h2,h3⟩
 .exact⟨[],U⟩
 .have Yh:l≠ []:=fun e=>by have:=hn e;cases this
  rw[QI Yh];cases cl with
  |true=>exact⟨[],rfl⟩
  |false=>
   refine⟨[],?_⟩;show(C9.many (C9 s 0 (m+1)) (l.map .aG) []).bind _=_;rw[FR (KK l)];show some (AV.Ck _ _ _ ((l.map AV.aG).all (Cr 40)),_)=_;rw[IT]
 .have Yh:l≠ []:=fun e=>by have:=hn e;cases this
  rw[QI Yh];refine⟨[b],?_⟩;show(Ww (s.b.g b)).bind _=_;rw[hg];show(v_ cs off (l.length*1)).bind _=_;have hc:v_ cs off (l.length*1)=some (l.map .aG):=by
   rw[Nat.mul_one];rw[Hp h1,h2]
  rw[hc];show(C9.many (C9 s 0 (m+1)) (l.map .aG) []).bind _=_;rw[FR (KK l)];show some (AV.Ck _ _ _ ((l.map AV.aG).all (Cr 40)),_)=_;rw[IT]
def mr:Option (List (List UInt8))->AV
 |some bs=> .Y [fC bs,.bool true]
 |none=> .Y [.Ca,.bool false]
theorem xV {cs:List (List UInt8)} {j:Nat} {w:List UInt8} (h:j<cs.length) (e:cs[j]=w):cs.contains w=true:=by
 rw[<-e];simp
theorem xW {cs:List (List UInt8)} {j:Nat} {w:List UInt8} (h:j<cs.length) (Xo:(cs.take j).contains w=false) (e:cs[j]≠w):(cs.take (j+1)).contains w=false:=by
 rw[List.take_add_one,Qi h,Option.toList_some];simp only[List.contains_eq_mem,List.mem_append,Qp,decide_eq_false_iff_not]at Xo|-;rintro(h1|h1)
 .exact Xo h1
 .exact e h1.symm
theorem xX (l:List Cw) (bs:List (List UInt8)) (hl:∀p∈l,p.1.length<=4000) (hn:l.length<=4000/\bs.length<=4000):
 Co (EK K2) 105 [Cq Ok 2 l,fC bs] S0 (mr (WK bs l)):=by
 refine As U<|Ew U<|Sq<|Ew U<|Sb ?_;refine Ai (fun x:Nat×AV×List (List UInt8)×St=>([(6,.int .i64 (x.1:Nat)),(0,Cq Ok 2 l),(1,x.2.1)],x.2.2.2)) (fun x=>l.length-x.1)
  (fun x=>x.1<=l.length/\x.2.2.2.c=0/\x.2.2.2.d=[]/\bK x.2.2.2 x.2.1 x.2.2.1/\WK bs l=WK x.2.2.1 (l.drop x.1)/\x.2.2.1.length=bs.length+x.1/\(x.2.2.1=[]->x.2.1= .Ca)) (0,fC bs,bs,Xc 0 0 [] []) ⟨Qo _,rfl,rfl,?_,rfl,rfl,?_⟩ rfl (Ab (by repeat' constructor)) ?_
 .cases bs with
  |nil=>exact .inl ⟨rfl,rfl⟩
  |cons a t=>exact .inr (.inl ⟨true,rfl⟩)
 .rintro rfl;rfl
 rintro⟨i,v,cs,st⟩ ⟨hi,YH,Yc,XM,xY,Y8,hnn⟩;dsimp only at hi YH Yc XM xY Y8 hnn|-;by_cases h:i<l.length
 .have hp:=Af Av h;have Y1:=hl _ (Ql h);have hno0:oJ cs l[i]=false->WK bs l=none:=fun hb=>by
   rw[xY,List.drop_eq_getElem_cons h];show(if oJ cs l[i]then _ else none)=none;rw[hb];rfl
  focus
   refine Sq<|Ew U ?_;refine Cd U (fun h1=>?_) (fun h1=>?_);refine Sk<|Sq<|Sb<|Sq<|Ew U<|Sb ?_;rotate_left;exact absurd h1 (by omega)
  refine Ai (fun j:Nat=>([(7,.int .i64 (j:Nat)),(6,.int .i64 (i:Nat)),(0,Cq Ok 2 l),(1,v)],st)) (fun j=>cs.length-j) (fun j=>j<=cs.length/\(cs.take j).contains l[i].1=false) 0 ⟨Qo _,rfl⟩ U (Ab (by repeat' constructor)) ?_;rintro j ⟨hj,Xo⟩;dsimp only at hj Xo|-;have hlen:=XM.len;by_cases h2':j<cs.length
  .rcases XM.at2 (E:=EK K2) h2' ag_9 Q_ with⟨rest,ow⟩|⟨b,off,ow,qW⟩
   .focus
     refine Sq<|Es<|Lv 2 U<|Lq (kn U hlen) U<|Lw U ?_;refine Cd U (fun h2=>?_) (fun h2=>?_);refine Sk<|Sq<|Sb<|Ad (by kernel_rfl)<|Nv 2 U<|Nq (kv U ow) U<|Nv 3 U<|Nq (kv U hp) U<|Nv 2 U<|Nq (R8 U tS U U U U) U<|Cz.done ?_;refine Cb U (fun g3=>?_) (fun g3=>?_);have h3:=bT g3;refine Ew U ?_;refine Se ⟨.inl U,U,Yc,YH,_,_,_,(Ac U (Ac U U)),U,U,?_⟩;rotate_left;have h3:=bF g3;refine Sk<|Sr<|qm U ?_;refine Lq (ka (b:=1) U (by omega)) U ?_;refine Lw U ?_;rotate_left;exact absurd h2 (by omega)
    .try refine Se ⟨.inl rfl,rfl,Yc,YH,_,_,_,(Ac rfl (Ac rfl rfl)),rfl,rfl,?_⟩
     rw[hno0 (by unfold oJ;rw[xV h2' h3];rfl)];rfl
    .exact⟨j+1,⟨h2',xW h2' Xo h3⟩,by show cs.length-(j+1)<cs.length-j;omega,U,U,Ab (by repeat' constructor)⟩
   .focus
     refine Sq<|Es<|Lv 2 U<|Lq (kn U hlen) U<|Lw U ?_;refine Cd U (fun h2=>?_) (fun h2=>?_);refine Sk<|Sq<|Sb<|Ad (by kernel_rfl)<|Nv 2 U<|Nq (kv U ow) U<|B9 U U qW U (.inl U) U U<|Nv 2 U<|Nq (kv U hp) U<|Nv 2 U<|Nq (R8 U tS U U U U) U<|Cz.done ?_;refine Cb U (fun g3=>?_) (fun g3=>?_);have h3:=bT g3;refine Ew U ?_;refine Se ⟨.inl U,U,Yc,YH,_,_,_,(Ac U (Ac U U)),U,U,?_⟩;rotate_left;have h3:=bF g3;refine Sk<|Sr<|qm U ?_;refine Lq (ka (b:=1) U (by omega)) U ?_;refine Lw U ?_;rotate_left;exact absurd h2 (by omega)
    .try refine Se ⟨.inl rfl,rfl,Yc,YH,_,_,_,(Ac rfl (Ac rfl rfl)),rfl,rfl,?_⟩
     rw[hno0 (by unfold oJ;rw[xV h2' h3];rfl)];rfl
    .exact⟨j+1,⟨h2',xW h2' Xo h3⟩,by show cs.length-(j+1)<cs.length-j;omega,U,U,Ab (by repeat' constructor)⟩
  .obtain rfl:j=cs.length:=by omega
   rw[List.take_length]at Xo;focus
    refine Sq<|Es<|Lv 2 U<|Lq (kn U hlen) U<|Lw U ?_;refine Cd U (fun h2=>?_) (fun h2=>?_);exact absurd h2 (by omega);refine Sx<|A0 U<|Sq<|Es<|Lv 2 U<|Lq (kv U hp) U<|Lv 2 U ?_;refine Lo (kc U (hit_140 (by omega))) U ?_;refine Lv 2 U ?_;refine Bn U (fun h3=>?_) (fun h3=>?_);refine Lw U<|Tt U<|Ew U ?_;refine Se ⟨.inl U,U,Yc,YH,_,_,_,(Ac U (Ac U U)),U,U,?_⟩;rotate_left;refine Lv 2 U<|Lh U U (kv U hp)<|Lv 2 U ?_;refine Lg U U (kc U (D1))<|Lw U ?_;refine Cn U (fun h4=>?_) (fun h4=>?_);refine Ew U ?_;refine Se ⟨.inl U,U,Yc,YH,_,_,_,(Ac U (Ac U U)),U,U,?_⟩;rotate_left;refine Sk<|AK (by kernel_rfl)<|Nv 1 U ?_;rotate_left
   .try refine Se ⟨.inl rfl,rfl,Yc,YH,_,_,_,(Ac rfl (Ac rfl rfl)),rfl,rfl,?_⟩
    rw[hno0 (by unfold oJ;rw[h3,Bool.false_and,Bool.and_false])];rfl
   .try refine Se ⟨.inl rfl,rfl,Yc,YH,_,_,_,(Ac rfl (Ac rfl rfl)),rfl,rfl,?_⟩
    rw[hno0 (by unfold oJ;rw[h4,Bool.and_false,Bool.and_false])];rfl
   have WO:oJ cs l[i]=true:=by unfold oJ;rw[Xo,h3,h4];rfl
   have ao:k7 (cs.map AV.aG).length 16=true:=by
    rw[Qn];exact A3 (by omega) (by decide)
   obtain⟨v1,s2,uM,sk,dx,dC,hG1,ho1,fp,hml1,hmb1⟩:=Oj (st:=st) (e:=9) (VZ:=16) (new:=cs.map .aG) ao YH;refine Cz.append U U U U xP Q_ by_9 z_9 U U U U (KC (XM.CQ (Qj _) fun _ _=>rfl)) (by rw[Qn]at uM;exact uM) sk (by rw[dC];intro b hb;cases hb) (by kernel_rfl) U (.inl U) U U ?_;rw[dC];refine Nv 2 U<|Nq (kv U hp) U<|Nv 2 U<|AI U xP Q_ z_9 U U U (.inl U) U U ?_;generalize hst1:st.A s2=XC at*;have hG2:a_ (XC.g (.J [.aG l[i].1] 9 false)) 9 1 v1 (cs.map .aG) (cs.map AV.aG).length:=hG1.CQ (Nat.le_succ _) fun c hc=>by
    have:=ho1 c hc;have C5:c≠XC.a:=by
     intro e;rcases hG1 with⟨rfl,_⟩|⟨b,rfl,hb,_⟩
     .cases hc
     .have:=Qb hc;omega
    show(XC.b.u XC.a _).g c=_;rw[Ay,if_neg C5]
   have jm:k7 ((cs.map AV.aG).length+1) 16=true:=by
    rw[Qn];exact A3 (by omega) (by decide)
   obtain⟨v2,s3,uN,hn3,zM,hG3,ho3,uY,pY⟩:=hG2.tL (VZ:=16) (new:=[.aG l[i].1]) rfl (by decide) rfl jm;refine Cz.append U U U U xP Q_ by_9 z_9 U U U U (n:=1) (new:=[.aG l[i].1]) ?_ uN (by rw[hn3];exact Nat.le_succ _) (fun b hb=>⟨zM b hb,?_⟩) (by kernel_rfl) ?_ (.inl U) U U ?_
   .show(Ww ((XC.b.u XC.a _).g XC.a)).bind _=_;rw[Ay,if_pos rfl];rfl
   .exact AH (IC (by kernel_rfl) (IR (by kernel_rfl) (IR (by kernel_rfl) U _) _))
   .exact IC (by kernel_rfl) (IR (by kernel_rfl) (IR (by kernel_rfl) U _) _)
   refine Nw U<|Sr<|qm U ?_;refine Lq (ka (b:=1) U (by omega)) U ?_;refine Lw U ?_;have eL:(XC.g (.J [.aG l[i].1] 9 false)).c=0:=hmb1;refine⟨(i+1,v2,cs++[l[i].1],(XC.g (.J [.aG l[i].1] 9 false)).A s3),⟨h,eL,(pY eL).trans (hml1.trans Yc),Tq (n:=(cs.map AV.aG).length+1) (by rw[List.map_append];exact hG3) (by simp),?_,by simp;omega,fun e=>by simp at e⟩,by show l.length-(i+1)<l.length-i;omega,rfl,rfl,Ab (by repeat' constructor)⟩;rw[xY,List.drop_eq_getElem_cons h];show(if oJ cs l[i]then _ else none)=_;rw[WO];rfl
 .focus
   refine Sq<|Ew U ?_;refine Cd U (fun h1=>?_) (fun h1=>?_);exact absurd h1 (by omega);refine Sx<|A0 U<|Ew U ?_;rotate_left
  obtain rfl:i=l.length:=by omega
  rw[List.drop_length]at xY;have hr:WK bs l=some cs:=xY;rw[hr];obtain⟨ks,hf⟩:=bK.ln XM hnn 37;refine Se ⟨.inl U,U,Yc,YH,_,.Y [fC cs,.bool true],ks,(Ac U (Ac U U)),?_,?_,U⟩
  .show(C9.many (C9 st 0 39) [v,.bool true] []).bind _=_;unfold C9.many C9.many C9.many;rw[hf];rfl
  .cases cs with
   |nil=>rfl
   |cons a t=>rfl
theorem T8 {a b:List (List UInt8)} (h:fC a=fC b):a=b:=by
 have hm:∀ {x y:List (List UInt8)},x.map AV.aG=y.map AV.aG->x=y:=fun {x y} h=>List.map_inj_right (fun _ _ h=>AV.aG.inj h)|>.1 h;cases a with
 |nil=>cases b with
  |nil=>rfl
  |cons x y=>cases h
 |cons x y=>cases b with
  |nil=>cases h
  |cons z w=>exact hm (AV.Ck.inj h).1
abbrev s9:= {p:List Cw×List (List UInt8)//(∀q∈p.1,q.1.length<=4000)/\p.1.length<=4000/\p.2.length<=4000}
noncomputable def K4:=WA K2 105 (fun p:s9=>[Cq Ok 2 p.1.1,fC p.1.2]) (fun p=>mr (WK p.1.2 p.1.1))
theorem UT {l:List Cw} {bs:List (List UInt8)} (h1:∀q∈l,q.1.length<=4000) (h2:l.length<=4000) (h3:bs.length<=4000):K4 105 [Cq Ok 2 l,fC bs]=some (mr (WK bs l)):=
 Ak (f:=105) (enc:=fun p:s9=>[Cq Ok 2 p.1.1,fC p.1.2]) (res:=fun p=>mr (WK p.1.2 p.1.1)) (by
  rintro⟨⟨a,b⟩,_⟩ ⟨⟨c,d⟩,_⟩ h;simp only[List.cons.injEq,and_true]at h;obtain rfl:=AT Dc Av h.1;obtain rfl:=T8 h.2;rfl) ⟨(l,bs),h1,h2,h3⟩
theorem Mv (o:Option (List (List UInt8))):Cr 40 (mr o)=true:=by
 rcases o with _|_|⟨a,l⟩<;>rfl
theorem VW {n a b:Int}:X1 n a b=true↔a<=n/\n<=b:=by
 unfold X1;simp only[Qf,decide_eq_true_eq]
theorem all4 (h:Wh Tryz.prog 10 [] (.bool true)):C6 Tryz.prog K4:=Aw Au (all2 h) (fun p:s9=>xX p.1.1 p.1.2 p.2.1 p.2.2) (fun p=>by obtain⟨⟨a,_|⟨b,c⟩⟩,_⟩:=p<;>rfl) (fun _=>Mv _)
theorem eqN (a b:Cw):Y2 true (cG (.O [.string,.int .i64]) (.O (Ok a)) (.O (Ok b)))=some (.bool (!(decide (a=b)))):=by
 obtain⟨a1,a2⟩:=a;obtain⟨b1,b2⟩:=b;show Y2 true ((some (XY a1 b1)).bind fun r=>bif r then(some (decide (a2=b2))).bind (fun r=>bif r then some true else some false)else some false)=_;by_cases h1:a1=b1
 .subst h1;rw[Bc,decide_eq_true rfl];by_cases h2:a2=b2
  .subst h2;simp[Y2]
  .simp[Y2,h2]
 .rw[Bc,decide_eq_false h1];simp[Y2,h1]
def ib:Cw:=([70,97,108,115,101],0)
def mu:Cw:=([84,114,117,101],0)
def Zy (c f:List Cw):Bool:=(X1 c.length 2 12&&decide ((f.length:Int)<=8)&&decide (c[0]?=some ib)&&decide (c[1]?=some mu))&&
 match WK [] c with
 |some l=>(WK l f).isSome
 |none=>false
theorem KZ {l:List Cw} {bs cs:List (List UInt8)} (h:WK bs l=some cs):cs.length=bs.length+l.length:=by
 induction l generalizing bs with
 |nil=>cases h;rfl
 |cons p l ih=>
  unfold WK at h;split at h
  .rw[ih h,Qm];show bs.length+1+l.length=bs.length+(l.length+1)
   omega
  .cases h
theorem sig_to (c f:List Cw) (hc:∀p∈c,p.1.length<=4000) (hf:∀p∈f,p.1.length<=4000):Co (EK K4) 59 [.O [Cq Ok 2 c,Cq Ok 2 f]] S0 (.bool (Zy c f)):=by
 refine As U ?_;focus
  refine Eh U<|Sq<|Es<|Ls 3 U ?_;refine Lo (kc U (D1)) U<|Lv 2 U ?_;refine Bn U (fun h1=>?_) (fun h1=>?_);refine Lw U<|Tt U<|Ew U ?_;refine Se (Er U ?_);refine Aa ?_;rotate_left;refine Ls 6 U ?_;refine Bd U (fun h2=>?_) (fun h2=>?_);refine Lw U<|Tt U<|Ew U ?_;refine Se (Er U ?_);refine Aa ?_;rotate_left;refine Ls 2 U ?_;rotate_left
 .unfold Zy;rw[h1];rfl
 .unfold Zy;rw[decide_eq_false (by omega:¬((f.length:Nat):Int)<=8),Bool.and_false];rfl
 have h0:=VW.1 h1;have Z4:=Af Av (l:=c) (i:=0) (by omega);have ng:=Af Av (l:=c) (i:=1) (by omega);have uV:=eqN c[0] ib;have he1:=eqN c[1] mu;focus
  refine Lh U U (kv (k:=0) U Z4)<|Lv 2 U<|Lh U U (Ep (neg:=true) U TE UE U U uV)<|Lv 2 U ?_;refine Be U (fun h3=>?_) (fun h3=>?_);refine Lw U<|Tt U<|Ew U ?_;refine Se (Er U ?_);refine Aa ?_;rotate_left;refine Ls 2 U<|Lh U U (kv (k:=1) U ng)<|Lv 2 U<|Lh U U (Ep (neg:=true) U TE UE U U he1)<|Lw U ?_;refine Ce U (fun h4=>?_) (fun h4=>?_);refine Ew U ?_;refine Se (Er U ?_);refine Aa ?_;rotate_left;refine Sk<|Es<|Ls 2 U ?_;rotate_left
 .unfold Zy;rw[Qi (by omega),decide_eq_false (by intro h;exact h3 (Option.some.inj h):¬some c[0]=some ib),Bool.and_false,Bool.false_and];rfl
 .unfold Zy;rw[Qi (i:=1) (by omega),decide_eq_false (by intro h;exact h4 (Option.some.inj h):¬some c[1]=some mu),Bool.and_false];rfl
 have kE:(X1 c.length 2 12&&decide ((f.length:Int)<=8)&&decide (c[0]?=some ib)&&decide (c[1]?=some mu))=true:=by
  rw[h1,decide_eq_true (by omega:((f.length:Nat):Int)<=8),Qi (i:=0) (by omega),Qi (i:=1) (by omega),h3,h4];simp
 refine Lo (kc U (UT (l:=c) (bs:=[]) hc (by omega) (Qo _))) U ?_;rcases hn:WK [] c with _|l
 .refine Lw U ?_;refine Sq<|Ew U<|Tt U<|Ew U ?_;refine Se (Er U ?_);refine Aa ?_;unfold Zy;rw[kE,hn];rfl
 .have hl:=KZ hn;refine Lw U<|Sq<|Ew U<|Tf U<|Sk<|Es<|Ls 3 U ?_;refine Lo (kc U (UT (l:=f) (bs:=l) hf (by omega) (by simp at hl;omega))) U ?_;rcases dx:WK l f with _|m
  .refine Lw U ?_;refine Ew U ?_;refine Se (Er U ?_);refine Aa ?_;unfold Zy;rw[kE,hn];show false=(true&&(WK l f).isSome)
   rw[dx];rfl
  .refine Lw U ?_;refine Ew U ?_;refine Se (Er U ?_);refine Aa ?_;unfold Zy;rw[kE,hn];show true=(true&&(WK l f).isSome)
   rw[dx];rfl
abbrev u5:= {p:List Cw×List Cw//(∀q∈p.1,q.1.length<=4000)/\(∀q∈p.2,q.1.length<=4000)}
noncomputable def K5:=WA K4 59 (fun p:u5=>[.O [Cq Ok 2 p.1.1,Cq Ok 2 p.1.2]]) (fun p=> .bool (Zy p.1.1 p.1.2))
theorem hit_59 {c f:List Cw} (hc:∀p∈c,p.1.length<=4000) (hf:∀p∈f,p.1.length<=4000):K5 59 [.O [Cq Ok 2 c,Cq Ok 2 f]]=some (.bool (Zy c f)):=
 Ak (f:=59) (enc:=fun p:u5=>[.O [Cq Ok 2 p.1.1,Cq Ok 2 p.1.2]]) (res:=fun p=> .bool (Zy p.1.1 p.1.2)) (by
  rintro⟨p,_⟩ ⟨q,_⟩ h;obtain rfl:=MD h;rfl) ⟨(c,f),hc,hf⟩
theorem all5 (h:Wh Tryz.prog 10 [] (.bool true)):C6 Tryz.prog K5:=Aw Au (all4 h) (fun p:u5=>sig_to p.1.1 p.1.2 p.2.1 p.2.2) (fun _=>rfl) (fun _=>rfl)
def M_ (st:St) (cs:List (List UInt8)):Prop:=st.b.g 2=some (.J [.bW 1] 155 false)/\st.b.g 1=some (.Y (aR 0 cs) cs.length)/\2<st.a
theorem xZ {st:St} {cs:List (List UInt8)} (hm:M_ st cs) (p:Cw) (hw:p.1.length<=4000) {R:AV->St->Prop}
 (hR:∀Yk,CL st Yk (fun c=>c=1)->(oJ cs p=true->M_ Yk (cs++[p.1]))->(1<st.c->Yk.d≠ [])->R (.bool (oJ cs p)) Yk):Wm (EK K5) 74 [.O [.aG p.1,.int .i64 p.2],.J 2 0] st R:=by
 obtain⟨iu,Yw,hn⟩:=hm;refine Wm.gen (fn:=Tryz.f74) U (by kernel_rfl) U U U U ?_;have ha0:(st.u.g (.J [.aG p.1,.int .i64 p.2] 54 false)).b.g st.u.a=some (.J [.aG p.1,.int .i64 p.2] 54 false):=Ax;have uM:(st.u.g (.J [.aG p.1,.int .i64 p.2] 54 false)).b.g 1=some (.Y (aR 0 cs) cs.length):=(Ap (by show 1<st.a;omega)).trans Yw;have uN:(st.u.g (.J [.aG p.1,.int .i64 p.2] 54 false)).b.g 2=some (.J [.bW 1] 155 false):=(Ap (by show 2<st.a;omega)).trans iu;have hl:=O0 (w:=p.1) uM;obtain⟨ob,Zx,hob⟩:=Vw (w:=p.1) uM;have ha3:((st.u.g (.J [.aG p.1,.int .i64 p.2] 54 false)).z 1 (some ob)).b.g st.u.a=some (.J [.aG p.1,.int .i64 p.2] 54 false):=by
  rw[Ah,if_neg (by show st.a≠1;omega)];exact ha0
 have CU:((st.u.g (.J [.aG p.1,.int .i64 p.2] 54 false)).z 1 (some ob)).d≠ []:=HC (by show 1<st.a;omega);have ed:CL st (st.G ((st.u.g (.J [.aG p.1,.int .i64 p.2] 54 false)).z 1 (some ob))) (fun c=>c=1):=
  (CL.g (s:=st.u) CL.z (CL.B (b:=1) (o:=some ob)) (own:=fun c=>c=1) (o1:=fun c=>c=1) (fun _ h=>h) (fun _ h=> .inl h) (Qj _)).u
 have hmet:cs.contains p.1=false->M_ (st.G ((st.u.g (.J [.aG p.1,.int .i64 p.2] 54 false)).z 1 (some ob))) (cs++[p.1]):=fun h=>⟨by
  show((st.u.g (.J [.aG p.1,.int .i64 p.2] 54 false)).z 1 (some ob)).b.g 2=_;rw[Ah,if_neg (by decide)];exact uN,by
  show((st.u.g (.J [.aG p.1,.int .i64 p.2] 54 false)).z 1 (some ob)).b.g 1=_;rw[Ah,if_pos rfl,hob h],by show 2<st.a+1;omega⟩
 have YM:∀b,b=oJ cs p->R (.bool b) (st.G ((st.u.g (.J [.aG p.1,.int .i64 p.2] 54 false)).z 1 (some ob))):=fun b h=>by
  rw[h];exact hR _ ed (fun h=>hmet (by
   unfold oJ at h;cases hc:cs.contains p.1 with
   |false=>rfl
   |true=>rw[hc]at h;cases h)) fun h=>VF (AL (by show 1<st.a;omega)) h
 focus
  refine Es<|Lo (BR U U U) U<|Lw U<|Es<|Lo (kl U uN U) U<|Lv 1 U<|Lo (kl U ha0 U) U<|Lo (Dm U xQ z_4 kd_9 U U hl) U<|Lw U<|Es<|Lo (kl U uN U) U<|Lv 1 U<|Lo (kl U ha0 U) U<|Ln (Ge (.inl U) xQ kd_9 U U U Zx) U<|Ld<|Es ?_;refine Lv 3 U ?_;refine Bn U (fun h1=>?_) (fun h1=>?_);refine Lv 1 U<|Lg U U (kl U ha3 U) ?_;refine Lg U U (kc U (hit_75 (by omega))) ?_;refine Lv 2 U ?_;refine Bb U (fun g2=>?_) (fun g2=>?_);refine Lv 1 U<|Lg U U (kl U ha3 U) ?_;refine Lg U U (kc U (E7))<|Lw U ?_;rotate_left;refine Lw U ?_;rotate_left;refine Lw U ?_;rotate_left
 .refine Se ?_;refine⟨.inl U,_,U,_,Ac U U,_,Dt U CU,YM _ ?_⟩;unfold oJ;rw[h1,g2];rfl
 .refine Se ?_;refine⟨.inl U,_,U,_,Ac U U,_,Dt U CU,YM _ ?_⟩;unfold oJ;rw[h1,g2];rfl
 .refine Se ?_;refine⟨.inl U,_,U,_,Ac U U,_,Dt U CU,YM _ ?_⟩;unfold oJ;rw[h1];rfl
theorem Ot {st:St} {cs:List (List UInt8)} (hm:M_ st cs) (l:List Cw) (hl:∀p∈l,p.1.length<=4000) (hn:l.length<=4000) {R:AV->St->Prop}
 (hR:∀Yk,CL st Yk (fun c=>c=1)->(∀ds,WK cs l=some ds->M_ Yk ds)->R (.bool (WK cs l).isSome) Yk):Wm (EK K5) 77 [Cq Ok 2 l,.an (.func 74) [] [.J 2 0]] st R:=by
 refine Wm.gen (fn:=Tryz.f77) U (by kernel_rfl) U U U U<|Ew U<|Sq<|Ew U<|Sb ?_;refine Ai (fun x:Nat×List (List UInt8)×St=>([(9,.int .i64 (x.1:Nat)),(8,.int .i64 (l.length:Nat)),(7,Cq Ok 2 l),(1,.an (.func 74) [] [.J 2 0])],x.2.2)) (fun x=>l.length-x.1)
  (fun x=>x.1<=l.length/\M_ x.2.2 x.2.1/\WK cs l=WK x.2.1 (l.drop x.1)/\CL st.u x.2.2 (fun c=>c=1)/\(x.1=0/\x.2.1=cs\/x.2.2.d≠ [])) (0,cs,st.u) ⟨Qo _,hm,rfl,CL.A,.inl ⟨rfl,rfl⟩⟩ rfl (Ab (by repeat' constructor)) ?_
 rintro⟨i,ds,s1⟩ ⟨hi,hmt,xY,ed,Yc⟩;dsimp only at hi hmt xY ed Yc|-;by_cases h:i<l.length
 .have hp:=Af Av h;have ha0:(s1.g (.J [.aG [],.int .i64 0] 54 false)).b.g s1.a=some (.J [.aG [],.int .i64 0] 54 false):=Ax;have uM:((s1.g (.J [.aG [],.int .i64 0] 54 false)).z s1.a (some (.J [.aG l[i].1,.int .i64 l[i].2] 54 false))).b.g s1.a=some (.J [.aG l[i].1,.int .i64 l[i].2] 54 false):=by rw[Ah,if_pos rfl]
  have hch1:CL st.u ((s1.g (.J [.aG [],.int .i64 0] 54 false)).z s1.a (some (.J [.aG l[i].1,.int .i64 l[i].2] 54 false))) (fun c=>c=1):=
   (ed.g CL.z (o2:=fun _=>False) (own:=fun c=>c=1) (fun _ h=>h) (fun _ h=>h.elim) (Qj _)).g CL.B (own:=fun c=>c=1) (fun _ h=>h) (fun c h=> .inr (by rw[h];exact ed.d)) (Qj _)
  have hmt1:M_ ((s1.g (.J [.aG [],.int .i64 0] 54 false)).z s1.a (some (.J [.aG l[i].1,.int .i64 l[i].2] 54 false))) ds:=by
   obtain⟨h2,h1,hn⟩:=hmt;refine⟨?_,?_,?_⟩
   .rw[Ah,if_neg (by omega),Ap hn];exact h2
   .rw[Ah,if_neg (by omega),Ap (by omega)];exact h1
   .show 2<s1.a+1;omega
  focus
   refine Ew U<|Sq ?_;refine Cd U (fun h1=>?_) (fun h1=>?_);refine Sk<|Sq<|Sb<|Es<|Lq (kv U hp) U<|Lv 1 U<|Lo (kz U) U<|Ln (kw U ha0 U) U<|Ld<|Es<|qm U<|Lo (kL U uM U) U ?_;rotate_left;exact absurd h1 (by omega)
  refine Dy (by kernel_rfl) U U U U U U U U (xZ hmt1 l[i] (hl _ (Ql h)) ?_);intro s2 ct pS fD;have kG:CL st.u s2 (fun c=>c=1):=hch1.g ct (own:=fun c=>c=1) (fun _ h=>h) (fun _ h=> .inl h) (Qj _);focus
   refine Lw U ?_;refine Cn U (fun h2=>?_) (fun h2=>?_);refine Ew U ?_;rotate_left;refine Sk<|Sr ?_;refine Lq (ka (b:=1) U (by omega)) U ?_;refine Lw U ?_;rotate_left
  .refine Se ?_;have hr:WK cs l=none:=by
    rw[xY,List.drop_eq_getElem_cons h];show(if oJ ds l[i]then _ else none)=none;rw[h2];rfl
   have Xn:∀Yk,CL st Yk (fun c=>c=1)->R (.bool false) Yk:=fun Yk hc=>by
    have:=hR Yk hc (fun ds hd=>by rw[hr]at hd;cases hd);rw[hr]at this;exact this
   exact⟨.inl U,_,rfl,_,Ac U U,Fz (R:=R) U (fun _ _=>rfl) (fun _=>rfl) (fun _=>Xn st CL.A) fun _=>Xn _ kG.u⟩
  .refine⟨(i+1,ds++[l[i].1],s2),⟨h,pS h2,?_,kG,.inr (fD ?_)⟩,by show l.length-(i+1)<l.length-i;omega,U,U,Ab (by repeat' constructor)⟩
   .rw[xY,List.drop_eq_getElem_cons h];show(if oJ ds l[i]then _ else none)=_;rw[h2];rfl
   .have:st.u.c=st.a:=rfl;rw[hch1.a,this];exact Nat.lt_of_succ_lt hm.2.2
 .focus
   refine Ew U<|Sq ?_;refine Cd U (fun h1=>?_) (fun h1=>?_);exact absurd h1 (by omega);refine Sx<|A0 U<|Ew U ?_;rotate_left
  obtain rfl:i=l.length:=by omega
  rw[List.drop_length]at xY;have hr:WK cs l=some ds:=xY;refine Se ?_;have Xn:∀Yk,CL st Yk (fun c=>c=1)->M_ Yk ds->R (.bool true) Yk:=fun Yk hc hm=>by
   have:=hR Yk hc (fun ds hd=>by rw[hr]at hd;cases hd;exact hm);rw[hr]at this;exact this
  refine⟨.inl U,_,rfl,_,Ac U U,Fz (R:=R) U (fun _ _=>rfl) (fun _=>rfl) (fun h=>Xn st CL.A ?_) fun _=>Xn _ ed.u hmt⟩;rcases Yc with⟨_,rfl⟩|Yc
  .exact hm
  .exact absurd h Yc
theorem Qq (c f:List Cw) (hc:∀p∈c,p.1.length<=4000) (hf:∀p∈f,p.1.length<=4000):Co (EK K5) 36 [.O [Cq Ok 2 c,Cq Ok 2 f]] S0 (.int .i64 (if Zy c f then 0 else 2)):=by
 refine As U ?_;have Xo:∀b:Bool,(X1 c.length 2 12&&decide ((f.length:Int)<=8)&&decide (c[0]?=some ib)&&decide (c[1]?=some mu))=false->Zy c f=false:=fun b h=>by unfold Zy;rw[h];rfl
 focus
  refine Eh U<|Es<|Lo (OX 2 U xQ U) U<|Lx U<|Ew U<|Sq<|Es<|Ls 3 U ?_;refine Lo (kc U (E7)) U<|Lv 2 U ?_;refine Lb U (fun g1=>?_) (fun g1=>?_);have h1:=HF g1;iterate 4 refine Lk U g1 ?_
  refine Lq (oT U g1 U) U<|Lw U<|Tt U<|Ew U ?_;refine Se (Er U ?_);rotate_left;have h1:=HG g1;refine Lh U g1 (kq U)<|Lg U g1 (kh U) ?_;iterate 2 refine Lh U g1 (kq U) ?_
  refine Lq (oF U g1 U) U<|qm U ?_;refine Lb U (fun g2=>?_) (fun g2=>?_);have h2:=dT g2;iterate 5 refine Lk U g2 ?_
  refine Lq (oT U g2 U) U<|Lw U<|Tt U<|Ew U ?_;refine Se (Er U ?_);rotate_left;have h2:=dF g2;refine Lh U g2 (kq U)<|Lg U g2 (kh U)<|Lh U g2 (kq U) ?_;rotate_left
 .rw[Xo true (by rw[h1];rfl)];rfl
 .rw[Xo true (by rw[decide_eq_false (by omega:¬((f.length:Nat):Int)<=8),Bool.and_false];rfl)];rfl
 have h0:=VW.1 h1;have Z4:=Af Av (l:=c) (i:=0) (by omega);have ng:=Af Av (l:=c) (i:=1) (by omega);have uV:=eqN c[0] ib;have he1:=eqN c[1] mu;have kE:(X1 c.length 2 12&&decide ((f.length:Int)<=8))=true:=by
  rw[h1,decide_eq_true (by omega:((f.length:Nat):Int)<=8)];rfl
 have nolog:∀ {s s1:St} {own:Nat->Prop},CL s s1 own->s.c=0->s.d=[]->s1.c=0/\s1.d=[]:=fun {s s1 own} hc hb hl=>⟨hc.a.trans hb,List.eq_nil_iff_forall_not_mem.2 fun x hx=>by
  rcases hc.e x hx with h|⟨h,_⟩
  .rw[hl]at h;cases h
  .rw[hb]at h;omega⟩
 refine Fa U U U U g2 ?_;refine kf U (Ot (cs:=[]) ⟨U,U,Nat.lt_succ_self 2⟩ c hc (by omega) ?_);intro s1 qw mT;have bD:s1.b.g 0=some (.J [Cq Ok 2 c,Cq Ok 2 f] 24 false):=(qw.b 0 (Nat.succ_pos 2) (by decide)).trans (AM 0);obtain⟨dt,dC⟩:=nolog qw rfl rfl;have hx1:3<=s1.a:=qw.d;rcases hn:WK [] c with _|ds
 .refine Lh U g2 (kq U) ?_;refine Lq (oF U g2 U) U<|Lw U<|Tt U<|Ew U ?_;refine Se ⟨.inl U,U,dC,dt,_,_,_,(Ac U U),U,U,?_⟩;try refine Se ⟨.inl rfl,rfl,dC,dt,_,_,_,(Ac rfl rfl),rfl,rfl,?_⟩
  have:Zy c f=false:=by unfold Zy;rw[hn,Bool.and_false]
  rw[this];rfl
 .have hlen:=KZ hn;refine Lh U g2 (kq U)<|Lq (oF U g2 U) U<|Lv 2 U<|Lg U U (kl U bD U)<|Lv 1 U<|Fa U U U U U ?_;refine kf U (Ot (mT ds hn) f hf (by omega) ?_);intro s2 ct pS;have Yw:s2.b.g 0=some (.J [Cq Ok 2 c,Cq Ok 2 f] 24 false):=(ct.b 0 (by omega) (by decide)).trans bD;obtain⟨dD,gK⟩:=nolog ct dt dC;rcases dx:WK ds f with _|es
  .refine Lw U ?_;refine Tt U<|Ew U ?_;refine Se ⟨.inl U,U,gK,dD,_,_,_,(Ac U U),U,U,?_⟩;try refine Se ⟨.inl rfl,rfl,gK,dD,_,_,_,(Ac rfl rfl),rfl,rfl,?_⟩
   have:Zy c f=false:=by
    unfold Zy;rw[hn];show(_&&(WK ds f).isSome)=false;rw[dx];simp
   rw[this];rfl
  .focus
    refine Lw U<|Tf U<|Sk<|Sq<|Es<|Lv 1 U<|Lo (kl U Yw U) U<|Lq (kv (k:=0) U Z4) U<|Lv 2 U<|Lq (Ep (neg:=true) U TE UE U U uV) U<|qm U ?_;refine Lb U (fun g3=>?_) (fun g3=>?_);have h3:=nT g3;iterate 6 refine Lk U g3 ?_
    refine Lq (oT U g3 U) U<|Ld<|Tt U<|Ew U ?_;refine Se ⟨.inl U,U,gK,dD,_,_,_,(Ac U U),U,U,?_⟩;rotate_left;have h3:=nF g3;refine Lh U g3 (kq U)<|Lg U g3 (kl U Yw U)<|Lh U g3 (kv (k:=1) U ng) ?_;iterate 2 refine Lh U g3 (kq U) ?_
    refine Lh U g3 (Ep (neg:=true) U TE UE U U he1)<|Lq (oF U g3 U) U<|Ld ?_;refine Ec U (fun g4=>?_) (fun g4=>?_);have h4:=nT g4;refine Ew U ?_;refine Se ⟨.inl U,U,gK,dD,_,_,_,(Ac U U),U,U,?_⟩;rotate_left;have h4:=nF g4;refine Sk<|Ew U ?_;refine Se ⟨.inl U,U,gK,dD,_,_,_,(Ac U U),U,U,?_⟩;rotate_left
   .try refine Se ⟨.inl rfl,rfl,gK,dD,_,_,_,(Ac rfl rfl),rfl,rfl,?_⟩
    rw[Xo true (by rw[Qi (i:=0) (by omega),decide_eq_false (by intro h;exact h3 (Option.some.inj h):¬some c[0]=some ib),Bool.and_false,Bool.false_and])];rfl
   .try refine Se ⟨.inl rfl,rfl,gK,dD,_,_,_,(Ac rfl rfl),rfl,rfl,?_⟩
    rw[Xo true (by rw[Qi (i:=1) (by omega),decide_eq_false (by intro h;exact h4 (Option.some.inj h):¬some c[1]=some mu),Bool.and_false])];rfl
   .try refine Se ⟨.inl rfl,rfl,gK,dD,_,_,_,(Ac rfl rfl),rfl,rfl,?_⟩
    have:Zy c f=true:=by
     unfold Zy;rw[kE,Qi (i:=0) (by omega),Qi (i:=1) (by omega),h3,h4,hn];show(_&&(WK ds f).isSome)=true;rw[dx];simp
    rw[this];rfl
noncomputable def K6:=WA K5 36 (fun p:u5=>[.O [Cq Ok 2 p.1.1,Cq Ok 2 p.1.2]]) (fun p=> .int .i64 (if Zy p.1.1 p.1.2 then 0 else 2))
theorem Rj {c f:List Cw} (hc:∀p∈c,p.1.length<=4000) (hf:∀p∈f,p.1.length<=4000):K6 36 [.O [Cq Ok 2 c,Cq Ok 2 f]]=some (.int .i64 (if Zy c f then 0 else 2)):=
 Ak (f:=36) (enc:=fun p:u5=>[.O [Cq Ok 2 p.1.1,Cq Ok 2 p.1.2]]) (res:=fun p=> .int .i64 (if Zy p.1.1 p.1.2 then 0 else 2)) (by
  rintro⟨p,_⟩ ⟨q,_⟩ h;obtain rfl:=MD h;rfl) ⟨(c,f),hc,hf⟩
theorem all6 (h:Wh Tryz.prog 10 [] (.bool true)):C6 Tryz.prog K6:=Aw Au (all5 h) (fun p:u5=>Qq p.1.1 p.1.2 p.2.1 p.2.2) (fun _=>rfl) (fun _=>rfl)
theorem D0 {f:Nat->Bool} {i:Nat} (h:(List.range i).all f=true) (hf:f i=true):(List.range (i+1)).all f=true:=by
 rw[List.range_succ,List.all_append,h,List.all_cons,hf];rfl
theorem Kz {f:Nat->Bool} {n i:Nat} (h:i<n) (hf:f i=false):(List.range n).all f=false:=by
 cases hb:(List.range n).all f with
 |false=>rfl
 |true=>
  have:=List.all_eq_true.1 hb i (List.mem_range.2 h);rw[hf]at this;cases this
theorem GJ {f:Nat->Bool} {n i:Nat} (h:(List.range n).all f=true) (hi:i<n):f i=true:=List.all_eq_true.1 h i (List.mem_range.2 hi)
def CN (n:Int):List AV:=[.int .i64 n]
theorem AD (n:Int):(CN n).length=0+1:=rfl
theorem FV (a b:Int) (h:CN a=CN b):a=b:=by cases h;rfl
abbrev WL:=Int×Int
def Y9 (p:WL):List AV:=[.int .i64 p.1,.int .i64 p.2]
theorem BE (p:WL):(Y9 p).length=1+1:=rfl
theorem ya (a b:WL) (h:Y9 a=Y9 b):a=b:=by
 obtain⟨a1,a2⟩:=a;obtain⟨b1,b2⟩:=b;cases h;rfl
structure X8 where
 op:Int
 a:Int
 b:List WL
 d:List Int
 c:Int
 n:Int
 args:List Int
def Wj (x:X8):List AV:=[.int .i64 x.op,.int .i64 x.a,Cq Y9 2 x.b,Cq CN 1 x.d,.int .i64 x.c,.int .i64 x.n,Cq CN 1 x.args]
theorem A8 (x:X8):(Wj x).length=6+1:=rfl
theorem ME (x y:X8) (h:Wj x=Wj y):x=y:=by
 obtain⟨a,b,c,d,e,f,g⟩:=x;obtain⟨a',b',c',d',e',f',g'⟩:=y;simp only[Wj,List.cons.injEq,AV.int.injEq,and_true,true_and]at h;obtain⟨rfl,rfl,h3,h4,rfl,rfl,h7⟩:=h;rw[AT ya BE h3,AT FV AD h4,AT FV AD h7]
structure Cj where
 b:List Cw
 c:List Cw
 a:List X8
 d:List Int
def CJ (c:Cj):List AV:=[Cq Ok 2 c.b,Cq Ok 2 c.c,Cq Wj 7 c.a,Cq CN 1 c.d]
theorem Hi {x y:Cj} (h:(AV.O (CJ x))=AV.O (CJ y)):x=y:=by
 obtain⟨a,b,c,d⟩:=x;obtain⟨a',b',c',d'⟩:=y;simp only[CJ,AV.O.injEq,List.cons.injEq,and_true]at h;rw[AT Dc Av h.1,AT Dc Av h.2.1,AT ME A8 h.2.2.1,AT FV AD h.2.2.2]
def fE (x:X8):Bool:= !(decide (20<(x.b.length:Int))||(decide (40<(x.d.length:Int))||decide (10<(x.args.length:Int))))
def Y6 (c:Cj) (i:Nat):X8:=c.a.getD i ⟨0,0,[],[],0,0,[]⟩
theorem B2 {c:Cj} {i:Nat} (h:i<c.a.length):Y6 c i=c.a[i]:=by unfold Y6;rw[List.getD_eq_getElem?_getD,Qi h];rfl
def XI (c:Cj):Bool:=(Yu c.b c.c&& !(decide (1020<(c.a.length:Int))||decide (20<(c.d.length:Int))))&&(List.range c.a.length).all fun i=>fE (Y6 c i)
structure Copied (st s1 s2:St) (z cs:List AV) (T:TypeId):Prop where
 new:s1.b.g st.a=some (.J z T false)
 put:s2.b.g st.a=some (.J cs T false)
 old1:∀c,c<st.a->s1.b.g c=st.b.g c
 nW:∀c,c<st.a->s2.b.g c=st.b.g c
 a:s2.c=st.c
 log:st.c<=st.a->s2.d=st.d
 next:s2.a=st.a+1
theorem AU {st:St} {z cs:List AV} {T:TypeId}:Copied st (st.g (.J z T false)) ((st.g (.J z T false)).z st.a (some (.J cs T false))) z cs T:=
 ⟨Ax,by rw[Ah,if_pos rfl],fun _ h=>Ap h,fun c h=>by rw[Ah,if_neg (Nat.ne_of_lt h),Ap h],rfl,fun h=>by
  show(bif Nat.blt st.a st.c then _ else st.d)=st.d;cases hb:Nat.blt st.a st.c with
  |false=>rfl
  |true=>
   have:st.a<st.c:=Qc hb;omega,rfl⟩
theorem Ni (c:Cj):Co (EK K6) 9 [.O (CJ c)] S0 (.bool (XI c)):=by
 refine As U ?_;have Xo:(Yu c.b c.c&& !(decide (1020<(c.a.length:Int))||decide (20<(c.d.length:Int))))=false->XI c=false:=fun h=>by unfold XI;rw[h];rfl
 focus
  refine Eh U<|Sq<|Es<|Ls 2 U ?_;refine Lo (kc U (hit_25)) U<|Lv 2 U ?_;refine Bn U (fun h1=>?_) (fun h1=>?_);refine Lw U<|Tt U<|Ew U ?_;refine Se (Er U ?_);refine Aa ?_;rotate_left;refine Ls 6 U ?_;refine Bb U (fun g2=>?_) (fun g2=>?_);have h2:=dT g2;refine Lw U<|Tt U<|Ew U ?_;refine Se (Er U ?_);refine Aa ?_;rotate_left;have h2:=dF g2;refine Lx U ?_;refine Cb U (fun g3=>?_) (fun g3=>?_);have h3:=dT g3;refine Ew U ?_;refine A9 (Er U ?_);refine Aa ?_;rotate_left;have h3:=dF g3;refine Cu.skip<|B0<|Ew U<|Cu.block ?_;rotate_left
 .rw[Xo (by rw[h1];rfl)]
 .rw[Xo (by rw[g2];simp)]
 .rw[Xo (by rw[g3];simp)]
 refine Ai (fun x:Nat×St=>([(3,.int .i64 (x.1:Nat)),(1,.J 0 0)],x.2)) (fun x=>c.a.length-x.1)
  (fun x=>x.1<=c.a.length/\(List.range x.1).all (fun i=>fE (Y6 c i))=true/\x.2.b.g 0=some (.J (CJ c) 28 false)/\0<x.2.a/\x.2.c=0/\x.2.d=[]) (0,Xc 1 0 [] [(0,some (.J (CJ c) 28 false))]) ⟨Qo _,rfl,rfl,Nat.one_pos,rfl,rfl⟩ rfl (Ab (by repeat' constructor)) ?_
 rintro⟨i,st⟩ ⟨hi,hs,hg,hn,hb,hl⟩;dsimp only at hi hs hg hn hb hl|-;by_cases h:i<c.a.length
 .have hp:=Af A8 h;obtain⟨qw,ct,hc3,q8,yb,uZ,hc7⟩:=AU (st:=st) (z:=[.int .i64 0,.int .i64 0,.Ca,.Ca,.int .i64 0,.int .i64 0,.Ca]) (cs:=Wj c.a[i]) (T:=58);have CU:=(uZ (by omega)).trans hl;have YH:=yb.trans hb;have iu:=(q8 0 hn).trans hg;have nv:fE c.a[i]=false->false=XI c:=fun h2=>by
   unfold XI;rw[Kz (i:=i) h (by rw[B2 h];exact h2),Bool.and_false]
  focus
   refine Sq<|Es<|Lv 2 U<|Lo (kl U hg U) U<|Lw U ?_;refine Cb U (fun g4=>?_) (fun g4=>?_);have h4:=dT g4;refine Sk<|Sq<|Sb<|Es<|Lv 1 U<|Lo (kl U hg U) U<|qm U<|Lq (kv U hp) U<|Lv 1 U<|Lo (kz U) U<|Ln (kw U qw U) U<|Ld<|Es<|Lv 1 U<|Lo (kl U ct U) U<|Lv 3 U ?_;refine Bb U (fun g5=>?_) (fun g5=>?_);have h5:=dT g5;refine Lw U<|Tt U<|Ew U ?_;refine Se ⟨.inl U,U,CU,YH,_,_,_,(Ac U U),U,U,?_⟩;refine Aa ?_;rotate_left;have h5:=dF g5;refine Lv 1 U<|Lg U U (kl U ct U)<|Lv 4 U ?_;refine Bb U (fun g6=>?_) (fun g6=>?_);have h6:=dT g6;refine Lw U<|Tt U<|Ew U ?_;refine Se ⟨.inl U,U,CU,YH,_,_,_,(Ac U U),U,U,?_⟩;refine Aa ?_;rotate_left;have h6:=dF g6;refine Lv 1 U<|Lg U U (AQ U U (AA OE Iy ct U))<|Lw U ?_;refine EH U (fun g7=>?_) (fun g7=>?_);have h7:=dT g7;refine Ew U ?_;refine A9 ⟨.inl U,U,CU,YH,_,_,_,(Ac U U),U,U,?_⟩;refine Aa ?_;rotate_left;have h7:=dF g7;refine Cu.skip<|Do<|qm U ?_
   refine Lq (IH (b:=1) U ey U U (by omega)) U ?_;refine Lw U ?_;rotate_left;have h4:=dF g4;exact absurd h4 (by omega)
  .exact nv (by unfold fE;rw[g5];rfl)
  .exact nv (by unfold fE;rw[g6];simp)
  .exact nv (by unfold fE;rw[g7];simp)
  .refine⟨(i+1,_),⟨h,D0 hs (by rw[B2 h];unfold fE;rw[g5,g6,g7];rfl),iu,Nat.succ_pos _,yb.trans hb,CU⟩,by show c.a.length-(i+1)<c.a.length-i;omega,U,U,Ab (by repeat' constructor)⟩
 .focus
   refine Sq<|Es<|Lv 2 U<|Lo (kl U hg U) U<|Lw U ?_;refine Cb U (fun g4=>?_) (fun g4=>?_);have h4:=dT g4;exact absurd h4 (by omega);have h4:=dF g4;refine Ko<|A0 U<|Ew U ?_;refine A9 ⟨.inl U,U,hl,hb,_,_,_,(Ac U U),U,U,?_⟩;refine Aa ?_;rotate_left
  obtain rfl:i=c.a.length:=by omega
  unfold XI;rw[hs,h1,g2,g3];rfl
noncomputable def K7:=WA K6 9 (fun c:Cj=>[.O (CJ c)]) (fun c=> .bool (XI c))
theorem yc {c:Cj}:K7 9 [.O (CJ c)]=some (.bool (XI c)):=
 Ak (fun a b h=>by rw[Hi (List.cons.inj h).1]) c
theorem all7 (h:Wh Tryz.prog 10 [] (.bool true)):C6 Tryz.prog K7:=Aw Au (all6 h) (fun c=>Ni c) (fun _=>rfl) (fun _=>rfl)
def eA (l:List Int):Bool:=(List.range l.length).all fun i=>X1 (l.getD i 0) 0 59
theorem Ao {α:Type} {l:List α} {i:Nat} {d:α} (h:i<l.length):l.getD i d=l[i]:=by rw[List.getD_eq_getElem?_getD,Qi h];rfl
structure r_ (c:Cj):Prop where
 b:c.b.length<=4000
 e:c.c.length<=4000
 d:c.a.length<=4000
 g:c.d.length<=4000
 a:∀x∈c.a,x.b.length<=4000
 f:∀x∈c.a,x.d.length<=4000
 args:∀x∈c.a,x.args.length<=4000
 i:∀p∈c.b,p.1.length<=4000
 j:∀p∈c.c,p.1.length<=4000
abbrev u6:= {p:Cj×Nat//r_ p.1/\p.2<p.1.a.length}
def u6.x (p:u6):X8:=p.1.1.a[p.1.2]'p.2.2
theorem Hj {p q:u6} (h:([.O (CJ p.1.1),.int .i64 (p.1.2:Nat)]:List AV)=[.O (CJ q.1.1),.int .i64 (q.1.2:Nat)]):p=q:=by
 obtain⟨⟨a,b⟩,_⟩:=p;obtain⟨⟨c,d⟩,_⟩:=q;simp only[List.cons.injEq,and_true,AV.int.injEq,true_and]at h;obtain rfl:=Hi h.1;obtain rfl:b=d:=by omega
 rfl
abbrev IntsT:= {l:List Int//l.length<=4000}
abbrev MadeT:= {p:List Cw×List Cw×X8//p.1.length<=4000/\p.2.1.length<=4000}
theorem regs_to (l:List Int) (hn:l.length<=4000):Co (EK K7) 108 [Cq CN 1 l] S0 (.bool (eA l)):=by
 refine As U<|Ew U<|Sq<|Ew U<|Sb ?_;refine Ai (fun i:Nat=>([(3,.int .i64 (i:Nat)),(0,Cq CN 1 l)],Xc 0 0 [] [])) (fun i=>l.length-i) (fun i=>i<=l.length/\(List.range i).all (fun i=>X1 (l.getD i 0) 0 59)=true) 0 ⟨Qo _,rfl⟩ U (Ab (by repeat' constructor)) ?_;rintro i ⟨hi,hs⟩;dsimp only at hi hs|-;by_cases h:i<l.length
 .have hp:=Af AD h;focus
   refine Sq<|Ew U ?_;refine Cd U (fun h1=>?_) (fun h1=>?_);refine Sk<|Sq<|Sb<|Es<|Lv 2 U<|Lq (kv U hp) U<|Lv 1 U ?_;refine Lo (kc U (Du)) U<|Lw U ?_;refine Cn U (fun h2=>?_) (fun h2=>?_);refine Ew U ?_;refine Se (Er U ?_);refine Aa ?_;rotate_left;refine Sk<|Sr<|qm U ?_;refine Lq (ka (b:=1) U (by omega)) U ?_;refine Lw U ?_;rotate_left;exact absurd h1 (by omega)
  .unfold eA;rw[Kz (i:=i) h (by rw[Ao h];assumption)]
  .exact⟨i+1,⟨h,D0 hs (by rw[Ao h];assumption)⟩,by show l.length-(i+1)<l.length-i;omega,U,U,Ab (by repeat' constructor)⟩
 .focus
   refine Sq<|Ew U ?_;refine Cd U (fun h1=>?_) (fun h1=>?_);exact absurd h1 (by omega);refine Sx<|A0 U<|Ew U ?_;refine Se (Er U ?_);refine Aa ?_;rotate_left
  obtain rfl:i=l.length:=by omega
  exact hs.symm
noncomputable def K8a:=WA K7 108 (fun l:IntsT=>[Cq CN 1 l.1]) (fun l=> .bool (eA l.1))
theorem hit_108 {l:List Int} (h:l.length<=4000):K8a 108 [Cq CN 1 l]=some (.bool (eA l)):=
 Ak (f:=108) (enc:=fun l:IntsT=>[Cq CN 1 l.1]) (res:=fun l=> .bool (eA l.1)) (by
  rintro⟨a,_⟩ ⟨b,_⟩ h;obtain rfl:=AT FV AD (List.cons.inj h).1;rfl) ⟨l,h⟩
def g_ (l:List Cw) (n:Int):Int:=(l.getD n.toNat ([],0)).2
def XJ (cons Cy:List Cw) (term n:Int) (k:Nat):Bool:=
 if term=2 then decide ((k:Int)=0)&&X1 n (-1000000) 1000000
 else if term=3 then X1 n 0 (cons.length-1)&&decide ((k:Int)=g_ cons n)
 else if term=4 then X1 n 0 (Cy.length-1)&&decide ((k:Int)=g_ Cy n)
 else if term=5 then X1 n 0 (Cy.length-1)&&decide ((k:Int)<g_ Cy n)
 else if term=6\/term=7\/9<=term/\term<=15 then decide (n=0)&&decide ((k:Int)=2)
 else false
def Zn (cons Cy:List Cw) (x:X8):Bool:=XJ cons Cy x.c x.n x.args.length
theorem NS {cons Cy:List Cw} {x:X8} (ht:x.c=6\/x.c=7\/9<=x.c/\x.c<=15):Zn cons Cy x=(decide (x.n=0)&&decide ((x.args.length:Int)=2)):=by
 unfold Zn XJ;rw[if_neg (by omega),if_neg (by omega),if_neg (by omega),if_neg (by omega),if_pos ht]
theorem SA {cons Cy:List Cw} {x:X8} (ht:x.c=6\/x.c=7\/9<=x.c/\x.c<=15) (hn:x.n=0):decide ((x.args.length:Int)=2)=Zn cons Cy x:=by rw[NS ht,decide_eq_true hn];rfl
theorem SB {cons Cy:List Cw} {x:X8} (ht:x.c=6\/x.c=7\/9<=x.c/\x.c<=15) (hn:¬x.n=0):false=Zn cons Cy x:=by rw[NS ht,decide_eq_false hn];rfl
theorem U8 {cons Cy:List Cw} {x:X8} (ht:¬(x.c=2\/x.c=3\/x.c=4\/x.c=5\/x.c=6\/x.c=7\/9<=x.c/\x.c<=15)):false=Zn cons Cy x:=by
 unfold Zn XJ;rw[if_neg (by omega),if_neg (by omega),if_neg (by omega),if_neg (by omega),if_neg (by omega)]
theorem made_to (cons Cy:List Cw) (x:X8) (hc:cons.length<=4000) (hf:Cy.length<=4000):Co (EK K8a) 109 [.O [Cq Ok 2 cons,Cq Ok 2 Cy],.O (Wj x)] S0 (.bool (Zn cons Cy x)):=by
 refine As U ?_;focus
  iterate 2 refine Eh U ?_
  refine Sq<|Eh U<|Sb<|Ew U ?_;refine Cd U (fun h1=>?_) (fun h1=>?_);refine Es<|Lv 3 U ?_;refine Bd U (fun h2=>?_) (fun h2=>?_);refine Ls 2 U ?_;refine Lg U U (kc U (Du))<|Lw U ?_;refine Se (Er U ?_);refine Aa ?_;rotate_left;refine Lw U ?_;refine Se (Er U ?_);refine Aa ?_;rotate_left;refine Ew U ?_;refine Cd U (fun h3=>?_) (fun h3=>?_);refine Es<|Ls 5 U<|Lq (ks U (by omega)) U ?_;refine Lo (kc U (Du)) U<|qm U ?_;refine Bb U (fun g4=>?_) (fun g4=>?_);refine Ls 5 U ?_;rotate_left;refine Lw U ?_;refine Se (Er U ?_);refine Aa ?_;rotate_left;refine Ew U ?_;refine Cd U (fun h5=>?_) (fun h5=>?_);refine Es<|Ls 5 U<|Lq (ks U (by omega)) U ?_;refine Lo (kc U (Du)) U<|qm U ?_;refine Bb U (fun g6=>?_) (fun g6=>?_);refine Ls 5 U ?_;rotate_left;refine Lw U ?_;refine Se (Er U ?_);refine Aa ?_;rotate_left;refine Ew U ?_;refine Cd U (fun h7=>?_) (fun h7=>?_);refine Es<|Ls 5 U<|Lq (ks U (by omega)) U ?_
  refine Lo (kc U (Du)) U<|qm U ?_;refine Bb U (fun g8=>?_) (fun g8=>?_);refine Ls 5 U ?_;rotate_left;refine Lw U ?_;refine Se (Er U ?_);refine Aa ?_;rotate_left;refine Sq<|Ew U ?_;refine Cd U (fun h9=>?_) (fun h9=>?_);refine Sk<|Tt U<|Es<|Ls 4 U ?_;refine Bd U (fun h10=>?_) (fun h10=>?_);refine Lw U ?_;refine Se (Er U ?_);refine Aa ?_;rotate_left;refine Lw U ?_;refine Se (Er U ?_);refine Aa ?_;rotate_left;refine Ew U ?_;refine Cd U (fun h11=>?_) (fun h11=>?_);refine Sk<|Tt U<|Es<|Ls 4 U ?_;refine Bd U (fun h12=>?_) (fun h12=>?_);refine Lw U ?_;refine Se (Er U ?_);refine Aa ?_;rotate_left;refine Lw U ?_;refine Se (Er U ?_);refine Aa ?_;rotate_left;refine Ew U ?_;refine Cd U (fun h13=>?_) (fun h13=>?_);refine Sk<|Tt U<|Es<|Ls 4 U ?_;refine Bd U (fun h14=>?_) (fun h14=>?_);refine Lw U ?_;refine Se (Er U ?_);refine Aa ?_;rotate_left;refine Lw U ?_;refine Se (Er U ?_);refine Aa ?_
  rotate_left;refine Ew U ?_;refine Cd U (fun h15=>?_) (fun h15=>?_);refine Sk<|Tt U<|Es<|Ls 4 U ?_;refine Bd U (fun h16=>?_) (fun h16=>?_);refine Lw U ?_;refine Se (Er U ?_);refine Aa ?_;rotate_left;refine Lw U ?_;refine Se (Er U ?_);refine Aa ?_;rotate_left;refine Ew U ?_;refine Cd U (fun h17=>?_) (fun h17=>?_);refine Sk<|Tt U<|Es<|Ls 4 U ?_;refine Bd U (fun h18=>?_) (fun h18=>?_);refine Lw U ?_;refine Se (Er U ?_);refine Aa ?_;rotate_left;refine Lw U ?_;refine Se (Er U ?_);refine Aa ?_;rotate_left;refine Ew U ?_;refine Cd U (fun h19=>?_) (fun h19=>?_);refine Sk<|Tt U<|Es<|Ls 4 U ?_;refine Bd U (fun rj=>?_) (fun rj=>?_);refine Lw U ?_;refine Se (Er U ?_);refine Aa ?_;rotate_left;refine Lw U ?_;refine Se (Er U ?_);refine Aa ?_;rotate_left;refine Ew U ?_;refine Cd U (fun h21=>?_) (fun h21=>?_);refine Sk<|Tt U<|Es<|Ls 4 U ?_;refine Bd U (fun h22=>?_) (fun h22=>?_);refine Lw U ?_
  refine Se (Er U ?_);refine Aa ?_;rotate_left;refine Lw U ?_;refine Se (Er U ?_);refine Aa ?_;rotate_left;refine Ew U ?_;refine Cd U (fun h23=>?_) (fun h23=>?_);refine Sk<|Tt U<|Es<|Ls 4 U ?_;refine Bd U (fun h24=>?_) (fun h24=>?_);refine Lw U ?_;refine Se (Er U ?_);refine Aa ?_;rotate_left;refine Lw U ?_;refine Se (Er U ?_);refine Aa ?_;rotate_left;refine Sr<|Lw U ?_;refine Cd U (fun h25=>?_) (fun h25=>?_);refine Es<|Ls 4 U ?_;refine Bd U (fun h26=>?_) (fun h26=>?_);refine Lw U ?_;refine Se (Er U ?_);refine Aa ?_;rotate_left;refine Lw U ?_;refine Se (Er U ?_);refine Aa ?_;rotate_left;refine Sk<|Ew U ?_;refine Se (Er U ?_);refine Aa ?_;rotate_left
 .simp only[Zn,XJ,h1,if_true,decide_eq_true h2,Bool.true_and]
 .simp only[Zn,XJ,h1,if_true,decide_eq_false h2,Bool.false_and]
 .obtain⟨hz,C5⟩:=VW.1 g4;have hp:=Af Av (l:=cons) (i:=x.n.toNat) (by omega);refine Lh U U (AW U ra Nf U U (by first|assumption|omega) hp)<|Lw U ?_;refine Se (Er U ?_);refine Aa ?_;simp only[Zn,XJ,h3,g4,g_,Ao (l:=cons) (i:=x.n.toNat) (d:=([],0)) (by omega)];rfl
 .simp only[Zn,XJ,h3,g4];rfl
 .obtain⟨hz,C5⟩:=VW.1 g6;have hp:=Af Av (l:=Cy) (i:=x.n.toNat) (by omega);refine Lh U U (AW U ra Nf U U (by first|assumption|omega) hp)<|Lw U ?_;refine Se (Er U ?_);refine Aa ?_;simp only[Zn,XJ,h5,g6,g_,Ao (l:=Cy) (i:=x.n.toNat) (d:=([],0)) (by omega)];rfl
 .simp only[Zn,XJ,h5,g6];rfl
 .obtain⟨hz,C5⟩:=VW.1 g8;have hp:=Af Av (l:=Cy) (i:=x.n.toNat) (by omega);refine Lh U U (AW U ra Nf U U (by first|assumption|omega) hp)<|Lw U ?_;refine Se (Er U ?_);refine Aa ?_;simp only[Zn,XJ,h7,g8,g_,Ao (l:=Cy) (i:=x.n.toNat) (d:=([],0)) (by omega)];rfl
 .simp only[Zn,XJ,h7,g8];rfl
 all_goals first|exact SA (by omega) ‹_›|exact SB (by omega) ‹_›|exact U8 (by omega)
noncomputable def K8b:=WA K8a 109 (fun p:MadeT=>[.O [Cq Ok 2 p.1.1,Cq Ok 2 p.1.2.1],.O (Wj p.1.2.2)]) (fun p=> .bool (Zn p.1.1 p.1.2.1 p.1.2.2))
theorem hit_109 {cons Cy:List Cw} {x:X8} (h1:cons.length<=4000) (h2:Cy.length<=4000):K8b 109 [.O [Cq Ok 2 cons,Cq Ok 2 Cy],.O (Wj x)]=some (.bool (Zn cons Cy x)):=
 Ak (f:=109) (enc:=fun p:MadeT=>[.O [Cq Ok 2 p.1.1,Cq Ok 2 p.1.2.1],.O (Wj p.1.2.2)]) (res:=fun p=> .bool (Zn p.1.1 p.1.2.1 p.1.2.2)) (by
  rintro⟨⟨a,b,c⟩,_⟩ ⟨⟨d,e,f⟩,_⟩ h;simp only[List.cons.injEq,and_true,AV.O.injEq]at h;obtain rfl:=AT Dc Av h.1.1;obtain rfl:=AT Dc Av h.1.2;obtain rfl:=ME _ _ h.2;rfl) ⟨(cons,Cy,x),h1,h2⟩
def aS (nc ni k:Nat) (l:List WL) (i:Nat):Bool:=
 (X1 (l.getD i (0,0)).1 0 (nc-1)&& !(decide (0<(i:Int))&&decide ((l.getD i (0,0)).1<=(l.getD (i-1) (0,0)).1)))&&X1 (l.getD i (0,0)).2 ((k+1:Nat):Int) ((ni-1:Nat):Int)
def gO (nc ni k:Nat) (l:List WL):Bool:=(List.range l.length).all (aS nc ni k l)
theorem alts_to (c:Cj) (k:Nat) (hk:k<c.a.length) (h1:c.b.length<=4000) (h2:c.a.length<=4000) (h3:c.a[k].b.length<=4000):Co (EK K8b) 106 [.O (CJ c),.int .i64 (k:Nat)] S0 (.bool (gO c.b.length c.a.length k c.a[k].b)):=by
 refine As U ?_;have Z4:=Af A8 hk;refine Eh U<|Es<|Ls 3 U<|Lq (kv U Z4) U<|Lw U<|Sq<|Ew U<|Sb ?_;generalize hl:c.a[k].b=l at*;refine Ai (fun i:Nat=>([(6,.int .i64 (i:Nat)),(5,Cq Y9 2 l),(2,.J 0 0),(1,.int .i64 (k:Nat))],Xc 1 0 [] [(0,some (.J (CJ c) 28 false))])) (fun i=>l.length-i) (fun i=>i<=l.length/\(List.range i).all (aS c.b.length c.a.length k l)=true) 0 ⟨Qo _,rfl⟩ U (Ab (by repeat' constructor)) ?_;rintro i ⟨hi,hs⟩;dsimp only at hi hs|-;by_cases h:i<l.length
 .have hp:=Af BE h;have ng:=Af BE (l:=l) (i:=i-1) (by omega);have Y0:aS c.b.length c.a.length k l i=((X1 l[i].1 0 (c.b.length-1)&& !(decide (0<(i:Int))&&decide (l[i].1<=l[i-1].1)))&&X1 l[i].2 ((k+1:Nat):Int) ((c.a.length-1:Nat):Int)):=by
   unfold aS;rw[Ao h,Ao (by omega)]
  have Xo:aS c.b.length c.a.length k l i=false->false=gO c.b.length c.a.length k l:=fun hf=>(Kz h hf).symm;focus
   refine Sq<|Ew U ?_;refine Cd U (fun h1=>?_) (fun h1=>?_);refine Sk<|Sq<|Sb<|Ad (by kernel_rfl)<|Nv 2 U<|Nq (kv U hp) U<|Nv 4 U<|Aj U KB Kt U U U (by kernel_rfl) (.inl U) U U<|Nv 1 U<|Nq (ks U (by omega)) U ?_;refine Na (kC U (Du)) (.inl U) U<|Nv 2 U ?_;refine Db U (fun g2=>?_) (fun g2=>?_);have h2:=HF g2;refine Nw U<|Tt U<|Ew U ?_;refine Se (Er U ?_);refine Aa ?_;rotate_left;have h2:=HG g2;refine Nv 3 U ?_;refine Db U (fun g3=>?_) (fun g3=>?_);have h3:=dT g3;refine Nv 2 U<|Nz (kv U hp) U U<|Nv 4 U<|Nz (Bj (b:=1) U ey U U (by omega)) U U<|Nz (kv U ng) U U<|Nv 6 U ?_;refine Db U (fun g4=>?_) (fun g4=>?_);have h4:=dT g4;refine Nw U<|Tt U<|Ew U ?_;refine Se (Er U ?_);refine Aa ?_;rotate_left;have h4:=dF g4;refine Nv 2 U<|Nz (kv U hp) U U<|Nv 3 U ?_;refine Nz (ka (b:=1) U (by omega)) U U ?_
   refine Nv 1 U<|Aj U tU tT U U U (by kernel_rfl) (gG U) U U<|Nv 1 U<|Nz (Bj (b:=1) U ey U U (by omega)) U U ?_;refine Na (kC U (Du)) (gG U) U<|Nw U ?_;refine Cb U (fun g5=>?_) (fun g5=>?_);have h5:=HF g5;refine Ew U ?_;refine Se (Er U ?_);refine Aa ?_;rotate_left;have h5:=HG g5;refine Sk<|Sr<|qm U ?_;refine Lq (ka (b:=1) U (by omega)) U ?_;refine Lw U ?_;rotate_left;have h3:=dF g3;refine Nv 17 U<|Nz (kv U hp) U U<|Nv 3 U ?_;refine Nz (ka (b:=1) U (by omega)) U U ?_;refine Nv 1 U<|Aj U tU tT U U U (by kernel_rfl) (gG U) U U<|Nv 1 U<|Nz (Bj (b:=1) U ey U U (by omega)) U U ?_;refine Na (kC U (Du)) (gG U) U<|Nw U ?_;refine Cb U (fun g6=>?_) (fun g6=>?_);have h6:=HF g6;refine Ew U ?_;refine A9 (Er U ?_);refine Aa ?_;rotate_left;have h6:=HG g6;refine Cu.skip<|Do<|qm U ?_;refine Lq (IH (b:=1) U ey U U (by omega)) U ?_;refine Lw U ?_;rotate_left;exact absurd h1 (by omega)
  .exact Xo (by rw[Y0,h2];rfl)
  .exact Xo (by rw[Y0,h2,g3,g4];rfl)
  .exact Xo (by rw[Y0,h5,Bool.and_false])
  .exact⟨i+1,⟨h,D0 hs (by rw[Y0,h2,g3,g4,h5];rfl)⟩,by show l.length-(i+1)<l.length-i;omega,U,U,Ab (by repeat' constructor)⟩
  .exact Xo (by rw[Y0,h6,Bool.and_false])
  .exact⟨i+1,⟨h,D0 hs (by rw[Y0,h2,g3,h6];rfl)⟩,by show l.length-(i+1)<l.length-i;omega,U,U,Ab (by repeat' constructor)⟩
 .focus
   refine Sq<|Ew U ?_;refine Cd U (fun h1=>?_) (fun h1=>?_);exact absurd h1 (by omega);refine Sx<|A0 U<|Ew U ?_;refine Se (Er U ?_);refine Aa ?_;rotate_left
  obtain rfl:i=l.length:=by omega
  exact hs.symm
noncomputable def K8c:=WA K8b 106 (fun p:u6=>[.O (CJ p.1.1),.int .i64 (p.1.2:Nat)]) (fun p=> .bool (gO p.1.1.b.length p.1.1.a.length p.1.2 p.x.b))
theorem hit_106 {c:Cj} {k:Nat} (h:r_ c) (hk:k<c.a.length):K8c 106 [.O (CJ c),.int .i64 (k:Nat)]=some (.bool (gO c.b.length c.a.length k c.a[k].b)):=
 Ak (enc:=fun p:u6=>[.O (CJ p.1.1),.int .i64 (p.1.2:Nat)]) (fun p q h=>by rw[Hj h]) ⟨(c,k),h,hk⟩
def bM (ni k:Nat) (l:List Int) (i:Nat):Bool:=X1 (l.getD i 0) ((k+1:Nat):Int) ((ni-1:Nat):Int)
def Yv (ni k:Nat) (l:List Int):Bool:=(List.range l.length).all (bM ni k l)&&decide (2<=(l.length:Int))
theorem RI (c:Cj) (k:Nat) (hk:k<c.a.length) (h2:c.a.length<=4000) (h3:c.a[k].d.length<=4000):Co (EK K8c) 107 [.O (CJ c),.int .i64 (k:Nat)] S0 (.bool (Yv c.a.length k c.a[k].d)):=by
 refine As U ?_;have Z4:=Af A8 hk;refine Eh U<|Es<|Ls 3 U<|Lq (kv U Z4) U<|Lw U<|Sq<|Ew U<|Sb ?_;generalize hl:c.a[k].d=l at*;refine Ai (fun i:Nat=>([(6,.int .i64 (i:Nat)),(5,Cq CN 1 l),(2,.J 0 0),(1,.int .i64 (k:Nat))],Xc 1 0 [] [(0,some (.J (CJ c) 28 false))])) (fun i=>l.length-i) (fun i=>i<=l.length/\(List.range i).all (bM c.a.length k l)=true) 0 ⟨Qo _,rfl⟩ U (Ab (by repeat' constructor)) ?_;rintro i ⟨hi,hs⟩;dsimp only at hi hs|-;by_cases h:i<l.length
 .have hp:=Af AD h;have Y0:bM c.a.length k l i=X1 l[i] ((k+1:Nat):Int) ((c.a.length-1:Nat):Int):=by
   unfold bM;rw[Ao h]
  focus
   refine Sq<|Ew U ?_;refine Cd U (fun h1=>?_) (fun h1=>?_);refine Sk<|Sq<|Sb<|Ad (by kernel_rfl)<|Nv 2 U<|Nq (kv U hp) U<|Nv 2 U ?_;refine Nq (ka (b:=1) U (by omega)) U ?_;refine Nv 1 U<|Aj U tU tT U U U (by kernel_rfl) (.inl U) U U<|Nv 1 U<|Nq (Bj (b:=1) U ey U U (by omega)) U ?_;refine Na (kC U (Du)) (.inl U) U<|Nw U ?_;refine Cn U (fun h2=>?_) (fun h2=>?_);refine Ew U ?_;refine Se (Er U ?_);refine Aa ?_;rotate_left;refine Sk<|Sr<|qm U ?_;refine Lq (ka (b:=1) U (by omega)) U ?_;refine Lw U ?_;rotate_left;exact absurd h1 (by omega)
  .unfold Yv;rw[Kz h (Y0.trans h2)];rfl
  .exact⟨i+1,⟨h,D0 hs (Y0.trans h2)⟩,by show l.length-(i+1)<l.length-i;omega,U,U,Ab (by repeat' constructor)⟩
 .focus
   refine Sq<|Ew U ?_;refine Cd U (fun h1=>?_) (fun h1=>?_);exact absurd h1 (by omega);refine Sx<|A0 U<|Ew U ?_;refine Se (Er U ?_);refine Aa ?_;rotate_left
  obtain rfl:i=l.length:=by omega
  unfold Yv;rw[hs];rfl
noncomputable def K8:=WA K8c 107 (fun p:u6=>[.O (CJ p.1.1),.int .i64 (p.1.2:Nat)]) (fun p=> .bool (Yv p.1.1.a.length p.1.2 p.x.d))
theorem hit_107 {c:Cj} {k:Nat} (h:r_ c) (hk:k<c.a.length):K8 107 [.O (CJ c),.int .i64 (k:Nat)]=some (.bool (Yv c.a.length k c.a[k].d)):=
 Ak (enc:=fun p:u6=>[.O (CJ p.1.1),.int .i64 (p.1.2:Nat)]) (fun p q h=>by rw[Hj h]) ⟨(c,k),h,hk⟩
theorem all8 (h:Wh Tryz.prog 10 [] (.bool true)):C6 Tryz.prog K8:=by
 have a1:C6 Tryz.prog K8a:=AG (all7 h) fun p=>BM Au (all7 h) (regs_to p.1 p.2) rfl rfl;have a2:C6 Tryz.prog K8b:=AG a1 fun p=>BM Au a1 (made_to p.1.1 p.1.2.1 p.1.2.2 p.2.1 p.2.2) rfl rfl;have a3:C6 Tryz.prog K8c:=AG a2 fun p=>BM Au a2 (alts_to p.1.1 p.1.2 p.2.2 p.2.1.b p.2.1.d (p.2.1.a _ (Ql _))) rfl rfl;exact AG a3 fun p=>BM Au a3 (RI p.1.1 p.1.2 p.2.2 p.2.1.d (p.2.1.f _ (Ql _))) U U
def Y4 (x:X8):Bool:=decide (x.c=0)&&(decide (x.n=0)&&decide ((x.args.length:Int)=0))
def YO (c:Cj) (k:Nat) (x:X8):Bool:=
 if x.op=1 then Y4 x&&(decide ((x.d.length:Int)=0)&&(X1 x.a 0 59&&gO c.b.length c.a.length k x.b))
 else if x.op=2 then Y4 x&&(decide (x.a=0)&&(decide ((x.b.length:Int)=0)&&Yv c.a.length k x.d))
 else if x.op=3\/x.op=4 then Y4 x&&(decide (x.a=0)&&(decide ((x.b.length:Int)=0)&&decide ((x.d.length:Int)=0)))
 else if x.op=5 then decide (x.a=0)&&(decide ((x.b.length:Int)=0)&&(decide ((x.d.length:Int)=0)&&(eA x.args&&Zn c.b c.c x)))
 else if x.op=6 then Y4 x&&(decide ((x.b.length:Int)=0)&&(decide ((x.d.length:Int)=0)&&X1 x.a 0 59))
 else false
section
variable {c : Cj} {k : Nat} {x : X8}
theorem Io (h:x.op=1):YO c k x=(Y4 x&&(decide ((x.d.length:Int)=0)&&(X1 x.a 0 59&&gO c.b.length c.a.length k x.b))):=by unfold YO;rw[if_pos h]
theorem Oc (h:x.op=2):YO c k x=(Y4 x&&(decide (x.a=0)&&(decide ((x.b.length:Int)=0)&&Yv c.a.length k x.d))):=by unfold YO;rw[if_neg (by omega),if_pos h]
theorem UJ (h:x.op=3\/x.op=4):YO c k x=(Y4 x&&(decide (x.a=0)&&(decide ((x.b.length:Int)=0)&&decide ((x.d.length:Int)=0)))):=by unfold YO;rw[if_neg (by omega),if_neg (by omega),if_pos h]
theorem UI (h:x.op=5):YO c k x=(decide (x.a=0)&&(decide ((x.b.length:Int)=0)&&(decide ((x.d.length:Int)=0)&&(eA x.args&&Zn c.b c.c x)))):=by unfold YO;rw[if_neg (by omega),if_neg (by omega),if_neg (by omega),if_pos h]
theorem Ob (h:x.op=6):YO c k x=(Y4 x&&(decide ((x.b.length:Int)=0)&&(decide ((x.d.length:Int)=0)&&X1 x.a 0 59))):=by unfold YO;rw[if_neg (by omega),if_neg (by omega),if_neg (by omega),if_neg (by omega),if_pos h]
theorem Ri (h:¬(x.op=1\/x.op=2\/x.op=3\/x.op=4\/x.op=5\/x.op=6)):YO c k x=false:=by unfold YO;rw[if_neg (by omega),if_neg (by omega),if_neg (by omega),if_neg (by omega),if_neg (by omega)]
end
theorem ins_to (c:Cj) (k:Nat) (hf:r_ c) (hk:k<c.a.length):Co (EK K8) 60 [.O (CJ c),.int .i64 (k:Nat)] S0 (.bool (YO c k c.a[k])):=by
 refine As U ?_;have Z4:=Af A8 hk;have ha:=hf.args _ (Ql hk);have fp:=hf.b;have pR:=hf.e;have ht:=hf.f _ (Ql hk);have fq:=hf.a _ (Ql hk);refine Eh U<|Es<|Ls 3 U<|Lq (kv U Z4) U<|Lx U ?_;generalize hx:c.a[k]=x at*;refine Cu.cut [(6,.bool (Y4 x)),(5,.J 1 0),(2,.J 0 0),(1,.int .i64 (k:Nat))] (Xc 2 0 [] [(1,some (.J (Wj x) 58 false)),(1,some (.J [.int .i64 0,.int .i64 0,.Ca,.Ca,.int .i64 0,.int .i64 0,.Ca] 58 false)),(0,some (.J (CJ c) 28 false))]) ?_ ?_
 .focus
   refine Sr<|Ls 4 U ?_;refine Bb U (fun g1=>?_) (fun g1=>?_);have h1:=dT g1;refine Ls 5 U ?_;refine A6 U U U U (fun g2=>?_) (fun g2=>?_);have h2:=dT g2;refine Lx U ?_;rotate_left;have h2:=dF g2;refine Lw U ?_;rotate_left;have h1:=dF g1;refine Lw U ?_;rotate_left
  .refine⟨U,U,U,?_⟩;have e:Y4 x=decide ((x.args.length:Int)=0):=by unfold Y4;rw[g1,g2];rfl
   rw[e]
   (refine Am.Ab ?_;repeat (first|exact trivial|refine⟨rfl,?_⟩))
  .refine⟨U,U,U,?_⟩;have e:Y4 x=false:=by unfold Y4;rw[g1,g2];rfl
   rw[e]
   (refine Am.Ab ?_;repeat (first|exact trivial|refine⟨rfl,?_⟩))
  .refine⟨U,U,U,?_⟩;have e:Y4 x=false:=by unfold Y4;rw[g1];rfl
   rw[e]
   (refine Am.Ab ?_;repeat (first|exact trivial|refine⟨rfl,?_⟩))
 .focus
   refine Sq<|Eh U<|Sb<|Ew U ?_;refine Cd U (fun h1=>?_) (fun h1=>?_);refine Es<|Lv 2 U ?_;refine Bb U (fun g2=>?_) (fun g2=>?_);refine Ls 6 U ?_;refine Bd U (fun h3=>?_) (fun h3=>?_);refine Ls 2 U ?_;refine Lg U U (kc U (Du))<|Lv 2 U ?_;refine Bb U (fun g4=>?_) (fun g4=>?_);refine Ls 2 U ?_;refine Lg U U (kc U (hit_106 (by omega) (by omega))) ?_;refine Lw U ?_;refine Se (Er U ?_);refine Aa ?_;rotate_left;refine Lw U ?_;refine Se (Er U ?_);refine Aa ?_;rotate_left;refine Lw U ?_;refine Se (Er U ?_);refine Aa ?_;rotate_left;refine Lw U ?_;refine Se (Er U ?_);refine Aa ?_;rotate_left;refine Ew U ?_;refine Cd U (fun h5=>?_) (fun h5=>?_);refine Es<|Lv 2 U ?_;refine Bb U (fun g6=>?_) (fun g6=>?_);refine Ls 5 U ?_;refine Bd U (fun h7=>?_) (fun h7=>?_);refine Ls 6 U ?_;refine Bd U (fun h8=>?_) (fun h8=>?_);refine Ls 2 U ?_;refine Lg U U (kc U (hit_107 (by omega) (by omega))) ?_;refine Lw U ?_
   refine Se (Er U ?_);refine Aa ?_;rotate_left;refine Lw U ?_;refine Se (Er U ?_);refine Aa ?_;rotate_left;refine Lw U ?_;refine Se (Er U ?_);refine Aa ?_;rotate_left;refine Lw U ?_;refine Se (Er U ?_);refine Aa ?_;rotate_left;refine Sq<|Ew U ?_;refine Cd U (fun h9=>?_) (fun h9=>?_);refine Sk<|Tt U<|Es<|Lv 2 U ?_;refine Bb U (fun g10=>?_) (fun g10=>?_);refine Ls 5 U ?_;refine Bd U (fun h11=>?_) (fun h11=>?_);refine Ls 6 U ?_;refine Bd U (fun h12=>?_) (fun h12=>?_);refine Lx U ?_;refine Se (Er U ?_);refine Aa ?_;rotate_left;refine Lw U ?_;refine Se (Er U ?_);refine Aa ?_;rotate_left;refine Lw U ?_;refine Se (Er U ?_);refine Aa ?_;rotate_left;refine Lw U ?_;refine Se (Er U ?_);refine Aa ?_;rotate_left;refine Sr<|Lw U ?_;refine Cd U (fun h13=>?_) (fun h13=>?_);refine Es<|Lv 2 U ?_;refine Bb U (fun g14=>?_) (fun g14=>?_);refine Ls 5 U ?_;refine Bd U (fun h15=>?_) (fun h15=>?_)
   refine Ls 6 U ?_;refine Bd U (fun h16=>?_) (fun h16=>?_);refine Lx U ?_;refine Se (Er U ?_);refine Aa ?_;rotate_left;refine Lw U ?_;refine Se (Er U ?_);refine Aa ?_;rotate_left;refine Lw U ?_;refine Se (Er U ?_);refine Aa ?_;rotate_left;refine Lw U ?_;refine Se (Er U ?_);refine Aa ?_;rotate_left;refine Ew U ?_;refine Cd U (fun h17=>?_) (fun h17=>?_);refine Es<|Ls 4 U ?_;refine Bd U (fun h18=>?_) (fun h18=>?_);refine Ls 6 U ?_;refine Bd U (fun h19=>?_) (fun h19=>?_);refine Ls 6 U ?_;refine Bd U (fun rj=>?_) (fun rj=>?_);refine Ls 2 U ?_;refine Lg U U (kc U (hit_108 (by omega))) ?_;refine Lv 2 U ?_;refine Bb U (fun g21=>?_) (fun g21=>?_);refine Ls 3 U ?_;refine Lg U U (kc U (hit_109 (by omega) (by omega))) ?_;refine Lw U ?_;refine Se (Er U ?_);refine Aa ?_;rotate_left;refine Lw U ?_;refine Se (Er U ?_);refine Aa ?_;rotate_left;refine Lw U ?_;refine Se (Er U ?_);refine Aa ?_
   rotate_left;refine Lw U ?_;refine Se (Er U ?_);refine Aa ?_;rotate_left;refine Lw U ?_;refine Se (Er U ?_);refine Aa ?_;rotate_left;refine Ew U ?_;refine Cd U (fun h22=>?_) (fun h22=>?_);refine Es<|Lv 2 U ?_;refine Bb U (fun g23=>?_) (fun g23=>?_);refine Ls 6 U ?_;refine Bd U (fun h24=>?_) (fun h24=>?_);refine Ls 6 U ?_;refine Bd U (fun h25=>?_) (fun h25=>?_);refine Ls 2 U ?_;refine Lg U U (kc U (Du))<|Lw U ?_;refine Se (Er U ?_);refine Aa ?_;rotate_left;refine Lw U ?_;refine Se (Er U ?_);refine Aa ?_;rotate_left;refine Lw U ?_;refine Se (Er U ?_);refine Aa ?_;rotate_left;refine Lw U ?_;refine Se (Er U ?_);refine Aa ?_;rotate_left;refine Sk<|Ew U ?_;refine Se (Er U ?_);refine Aa ?_;rotate_left
  all_goals clear Z4 ha ht fq fp pR
  all_goals first|rw[Io h1]|rw[Oc h5]|rw[UJ (by omega)]|rw[UI h17]|rw[Ob h22]|rw[Ri (by omega)]
  all_goals simp only[*,Bool.true_and,Bool.false_and,Bool.and_self,decide_true,decide_false]
end Go.Proofs.YtpihdbhocgcbpaaGreatDoor
