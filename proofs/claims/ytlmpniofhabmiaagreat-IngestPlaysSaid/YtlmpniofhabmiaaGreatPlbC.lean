/- A part of the proof of the theorem that this claim hands in: merged and shortened by small programs out of texts of my own. -/
import Derived.Test.YtlmpniofhabmiaaGreatPlbB
import Derived.Shelf.SlSortCmp.NoneTotal
set_option linter.unusedVariables false
set_option linter.unusedSimpArgs false
set_option linter.unusedSectionVars false
namespace Go.Vc
open Go Go.Proofs
open Go.Value Go.Ending Go.IntKind
set_option maxRecDepth 100000
section
variable{w:World}{R:Ending->World->Prop}
theorem DF{d bd bn N cd cn:Nat}{pe:Option Addr}{pn pc:Nat}{fu:Int}{pk:Option Addr}{kn kc:Nat}{dw:Bool}{wr sy st:Int}
 (hk:Hb w d #[sK bd N cd,sK bn N cn,slice pe pn pc,iv fu,slice pk kn kc,bv dw,iv wr,iv sy,iv st] 99)
 (h :
 R (returned (bv (decide ((0:Int)<(↑N:Int))))) w):Calls Zz 62 #[pK d] w R :=
 dD (an:={}) (args:=[.a (.c (.loc 0 0))]) (rho:=[d]) (hp:=[(0,99,[.v (sK bd N cd),.v (sK bn N cn),.v (.slice pe pn pc),.v (iv fu),.v (.slice pk kn kc),.sb dw,.v (iv wr),.v (iv sy),.v (iv st)])]) aS Tryz.func62 (by kernel_rfl) rfl rfl hk (by simp) (by simpa using ab hk) rfl (by simp) h
theorem tE{d bd bn N cd cn:Nat}{pe:Option Addr}{pn pc:Nat}{fu:Int}{pk:Option Addr}{kn kc:Nat}{dw:Bool}{wr sy st:Int}
 (hk:Hb w d #[sK bd N cd,sK bn N cn,slice pe pn pc,iv fu,slice pk kn kc,bv dw,iv wr,iv sy,iv st] 99)
 (h :
 Hb w d #[sK bd N cd,sK bn N cn,slice pe pn pc,iv fu,slice pk kn kc,bv dw,iv wr,iv sy,iv st] 99->ag Zz 62 #[pK d] w fun e1 w1 =>
 ∃b1,e1=returned (bv b1)/\KpL [] w w1/\((!b1)=true->R (returned (iv 0)) w1)/\((!b1)=false->(64:Int)≠(0:Int)/\R (returned (iv (i64.wrap ((↑N:Int).tdiv (64:Int))))) w1)):Calls Zz 80 #[pK d] w R :=
 dD (an:={}) (args:=[.a (.c (.loc 0 0))]) (rho:=[d]) (hp:=[(0,99,[.v (sK bd N cd),.v (sK bn N cn),.v (.slice pe pn pc),.v (iv fu),.v (.slice pk kn kc),.sb dw,.v (iv wr),.v (iv sy),.v (iv st)])]) aS Tryz.func80 (by kernel_rfl) rfl rfl hk (by simp) (by simpa using ab hk) rfl (by simp) h
theorem As{d bd bn N cd cn:Nat}{pe:Option Addr}{pn pc:Nat}{fu:Int}{pk:Option Addr}{kn kc:Nat}{dw:Bool}{wr sy st:Int}
 (hk:Hb w d #[sK bd N cd,sK bn N cn,slice pe pn pc,iv fu,slice pk kn kc,bv dw,iv wr,iv sy,iv st] 99)
 (h :
 Hb w d #[sK bd N cd,sK bn N cn,slice pe pn pc,iv fu,slice pk kn kc,bv dw,iv wr,iv sy,iv st] 99->ag Zz 80 #[pK d] w fun e1 w1 =>
 ∃n1,e1=returned (iv n1)/\KpL [] w w1/\ar i64 (n1 - 2)/\(2:Int)≠(0:Int)/\R (returned (iv (i64.wrap ((n1 - 2).tdiv 2)))) w1):Calls Zz 50 #[pK d] w R :=
 dD (an:={}) (args:=[.a (.c (.loc 0 0))]) (rho:=[d]) (hp:=[(0,99,[.v (sK bd N cd),.v (sK bn N cn),.v (.slice pe pn pc),.v (iv fu),.v (.slice pk kn kc),.sb dw,.v (iv wr),.v (iv sy),.v (iv st)])]) aS Tryz.func50 (by kernel_rfl) rfl rfl hk (by simp) (by simpa using ab hk) rfl (by simp) h
theorem ru{d bd bn N cd cn:Nat}{pe:Option Addr}{pn pc:Nat}{fu:Int}{pk:Option Addr}{kn kc:Nat}{dw:Bool}{wr sy st:Int}
 (hk:Hb w d #[sK bd N cd,sK bn N cn,slice pe pn pc,iv fu,slice pk kn kc,bv dw,iv wr,iv sy,iv st] 99)
 (h :
 Hb w d #[sK bd N cd,sK bn N cn,slice pe pn pc,iv fu,slice pk kn kc,bv dw,iv wr,iv sy,iv st] 99->ag Zz 62 #[pK d] w fun e1 w1 =>
 ∃b1,e1=returned (bv b1)/\KpL [] w w1/\((!b1)=true->Hb w1 d #[sK bd N cd,sK bn N cn,slice pe pn pc,iv fu,slice pk kn kc,bv dw,iv wr,iv sy,iv st] 99->R (returned (iv 1)) w1)/\((!b1)=false->∀w2,KpL [d,d,d] w1 w2->Hb w2 d #[sK bd N cd,sK bn N cn,slice pe pn pc,iv (-1),slice none 0 0,bv false,iv wr,iv sy,iv st] 99->R (returned (iv 0)) w2)):Calls Zz 34 #[pK d] w R :=
 dD (an:={ all:=true }) (args:=[.a (.c (.loc 0 0))]) (rho:=[d]) (hp:=[(0,99,[.v (sK bd N cd),.v (sK bn N cn),.v (.slice pe pn pc),.v (iv fu),.v (.slice pk kn kc),.sb dw,.v (iv wr),.v (iv sy),.v (iv st)])]) aS Tryz.func34 (by kernel_rfl) rfl rfl hk (by simp) (by simpa using ab hk) rfl (by simp) h
theorem Be{d bd bn N cd cn:Nat}{pe:Option Addr}{pn pc:Nat}{fu:Int}{pk:Option Addr}{kn kc:Nat}{dw:Bool}{wr sy st:Int}{i:Int}
 (hk:Hb w d #[sK bd N cd,sK bn N cn,slice pe pn pc,iv fu,slice pk kn kc,bv dw,iv wr,iv sy,iv st] 99)
 (h :
 Hb w d #[sK bd N cd,sK bn N cn,slice pe pn pc,iv fu,slice pk kn kc,bv dw,iv wr,iv sy,iv st] 99->ag Zz 62 #[pK d] w fun e1 w1 =>
 ∃b1,e1=returned (bv b1)/\KpL [] w w1/\((!b1)=true->R (returned (tuple #[slice none 0 0,iv 1])) w1)/\((!b1)=false->(¬i<0->Hb w1 d #[sK bd N cd,sK bn N cn,slice pe pn pc,iv fu,slice pk kn kc,bv dw,iv wr,iv sy,iv st] 99->ag Zz 80 #[pK d] w1 fun e2 w2 =>
 ∃n1,e2=returned (iv n1)/\KpL [] w1 w2/\(n1<=i->R (returned (tuple #[slice none 0 0,iv 3])) w2)/\(¬n1<=i->(dw=true->R (returned (tuple #[slice none 0 0,iv 17])) w2)/\(dw=false->ag Zz 92 #[sK bn N cn,iv i] w2 fun e3 w3 =>
 ∃a1 k1 k2,e3=returned (slice a1 k1 k2)/\KpL [] w2 w3/\ag Zz 95 #[slice a1 k1 k2] w3 fun e4 w4 =>
 ∃a2 k3 k4,e4=returned (slice a2 k3 k4)/\KpL [] w3 w4/\R (returned (tuple #[slice a2 k3 k4,iv 0])) w4)))/\(i<0->R (returned (tuple #[slice none 0 0,iv 3])) w1))):Calls Zz 35 #[pK d,iv i] w R :=
 dD (an:={}) (args:=[.a (.c (.loc 0 0)),av (iv i)]) (rho:=[d]) (hp:=[(0,99,[.v (sK bd N cd),.v (sK bn N cn),.v (.slice pe pn pc),.v (iv fu),.v (.slice pk kn kc),.sb dw,.v (iv wr),.v (iv sy),.v (iv st)])]) aS Tryz.func35 (by kernel_rfl) rfl rfl hk (by simp) (by simpa using ab hk) rfl (by simp) h
theorem zb{d bd bn N cd cn:Nat}{pe:Option Addr}{pn pc:Nat}{fu:Int}{pk:Option Addr}{kn kc:Nat}{dw:Bool}{wr sy st:Int}
 (hk:Hb w d #[sK bd N cd,sK bn N cn,slice pe pn pc,iv fu,slice pk kn kc,bv dw,iv wr,iv sy,iv st] 99)
 (h :
 (fu=0->Hb w d #[sK bd N cd,sK bn N cn,slice pe pn pc,iv fu,slice pk kn kc,bv dw,iv wr,iv sy,iv st] 99->ag Zz 94 #[pK d,slice pk kn kc] w fun e1 w1 =>
 e1=returned (tuple #[])/\∃l1,KpL l1 w w1/\R (returned (bv true)) w1)/\(¬fu=0->(0<fu->∀w2,KpL [d] w w2->Hb w2 d #[sK bd N cd,sK bn N cn,slice pe pn pc,iv (i64.wrap (fu - 1)),slice pk kn kc,bv dw,iv wr,iv sy,iv st] 99->R (returned (bv false)) w2)/\(¬0<fu->Hb w d #[sK bd N cd,sK bn N cn,slice pe pn pc,iv fu,slice pk kn kc,bv dw,iv wr,iv sy,iv st] 99->R (returned (bv false)) w))):Calls Zz 93 #[pK d] w R :=
 dD (an:={ muts:=[94],all:=true,wrap:=true }) (args:=[.a (.c (.loc 0 0))]) (rho:=[d]) (hp:=[(0,99,[.v (sK bd N cd),.v (sK bn N cn),.v (.slice pe pn pc),.v (iv fu),.v (.slice pk kn kc),.sb dw,.v (iv wr),.v (iv sy),.v (iv st)])]) aS Tryz.func93 (by kernel_rfl) rfl rfl hk (by simp) (by simpa using ab hk) rfl (by simp) h
theorem A6{d bd bn N cd cn:Nat}{pe:Option Addr}{pn pc:Nat}{fu:Int}{pk:Option Addr}{kn kc:Nat}{dw:Bool}{wr sy st:Int}
 (hk:Hb w d #[sK bd N cd,sK bn N cn,slice pe pn pc,iv fu,slice pk kn kc,bv dw,iv wr,iv sy,iv st] 99)
 (h :
 Hb w d #[sK bd N cd,sK bn N cn,slice pe pn pc,iv fu,slice pk kn kc,bv dw,iv wr,iv sy,iv st] 99->ag Zz 62 #[pK d] w fun e1 w1 =>
 ∃b1,e1=returned (bv b1)/\KpL [] w w1/\((!b1)=true->Hb w1 d #[sK bd N cd,sK bn N cn,slice pe pn pc,iv fu,slice pk kn kc,bv dw,iv wr,iv sy,iv st] 99->R (returned (iv 1)) w1)/\((!b1)=false->(dw=true->Hb w1 d #[sK bd N cd,sK bn N cn,slice pe pn pc,iv fu,slice pk kn kc,bv dw,iv wr,iv sy,iv st] 99->R (returned (iv 17)) w1)/\(dw=false->∀w2,KpL [d] w1 w2->Hb w2 d #[sK bd N cd,sK bn N cn,slice pe pn pc,iv fu,slice pk kn kc,bv dw,iv wr,iv (i64.wrap (sy+1)),iv st] 99->ag Zz 93 #[pK d] w2 fun e2 w3 =>
 ∃b2,e2=returned (bv b2)/\∃l1,KpL l1 w2 w3/\(b2=true->R (returned (iv 17)) w3)/\(b2=false->∃a1 k1 k2,ao w3 (Addr.mk d (0+0) none) [slice a1 k1 k2]/\∃a2 k3 k4,ao w3 (Addr.mk d (0+1) none) [slice a2 k3 k4]/\∀w4,KpL [] w3 w4->Ev Zz (Builtin.copy_ #[33,33] 3 #[slice a1 k1 k2,slice a2 k3 k4]) w4 fun y1 w5 =>
 ∃n1,y1=iv n1/\∃l2,KpL l2 w4 w5/\(∃(l3:List Value),ao w5 (Addr.mk d (0+2) none) l3/\l3.length=1)/\aq w5 (Addr.mk d (0+2) none) 1/\∀w6,w6=bL w5 (Addr.mk d (0+2) none) [slice none 0 0] 0->R (returned (iv 0)) w6)))):Calls Zz 37 #[pK d] w R :=
 dD (an:={ muts:=[93],all:=true,wrap:=true }) (args:=[.a (.c (.loc 0 0))]) (rho:=[d]) (hp:=[(0,99,[.v (sK bd N cd),.v (sK bn N cn),.v (.slice pe pn pc),.v (iv fu),.v (.slice pk kn kc),.sb dw,.v (iv wr),.v (iv sy),.v (iv st)])]) aS Tryz.func37 (by kernel_rfl) rfl rfl hk (by simp) (by simpa using ab hk) rfl (by simp) h
theorem xz{d bd bn N cd cn:Nat}{pe:Option Addr}{pn pc:Nat}{fu:Int}{pk:Option Addr}{kn kc:Nat}{dw:Bool}{wr sy st:Int}{i:Int}{ba:Option Addr}{bl bc:Nat}
 (hk:Hb w d #[sK bd N cd,sK bn N cn,slice pe pn pc,iv fu,slice pk kn kc,bv dw,iv wr,iv sy,iv st] 99)
 (h :
 Hb w d #[sK bd N cd,sK bn N cn,slice pe pn pc,iv fu,slice pk kn kc,bv dw,iv wr,iv sy,iv st] 99->ag Zz 62 #[pK d] w fun e1 w1 =>
 ∃b1,e1=returned (bv b1)/\KpL [] w w1/\((!b1)=true->Hb w1 d #[sK bd N cd,sK bn N cn,slice pe pn pc,iv fu,slice pk kn kc,bv dw,iv wr,iv sy,iv st] 99->R (returned (iv 1)) w1)/\((!b1)=false->(¬i<0->Hb w1 d #[sK bd N cd,sK bn N cn,slice pe pn pc,iv fu,slice pk kn kc,bv dw,iv wr,iv sy,iv st] 99->ag Zz 80 #[pK d] w1 fun e2 w2 =>
 ∃n1,e2=returned (iv n1)/\KpL [] w1 w2/\(n1<=i->Hb w2 d #[sK bd N cd,sK bn N cn,slice pe pn pc,iv fu,slice pk kn kc,bv dw,iv wr,iv sy,iv st] 99->R (returned (iv 3)) w2)/\(¬n1<=i->((↑bl:Int)≠(64:Int)->Hb w2 d #[sK bd N cd,sK bn N cn,slice pe pn pc,iv fu,slice pk kn kc,bv dw,iv wr,iv sy,iv st] 99->R (returned (iv 2)) w2)/\(¬(↑bl:Int)≠(64:Int)->(dw=true->Hb w2 d #[sK bd N cd,sK bn N cn,slice pe pn pc,iv fu,slice pk kn kc,bv dw,iv wr,iv sy,iv st] 99->R (returned (iv 17)) w2)/\(dw=false->∀w3,KpL [d] w2 w3->Hb w3 d #[sK bd N cd,sK bn N cn,slice pe pn pc,iv fu,slice pk kn kc,bv dw,iv (i64.wrap (wr+1)),iv sy,iv st] 99->Ev Zz (Instr.arrayAt 91 (slice ba bl bc)) w3 fun y1 w4 =>
 ∃d1,y1=pointer (some d1)/\∃l1,KpL l1 w3 w4/\af d l1/\(Hb w4 d #[sK bd N cd,sK bn N cn,slice pe pn pc,iv fu,slice pk kn kc,bv dw,iv (i64.wrap (wr+1)),iv sy,iv st] 99->(ao w4 (Addr.mk d (0+2) none) [slice pe pn pc]/\True)/\(Hb w4 d #[sK bd N cd,sK bn N cn,slice pe pn pc,iv fu,slice pk kn kc,bv dw,iv (i64.wrap (wr+1)),iv sy,iv st] 99->∃(l2:List Value),l2.length=64/\ao w4 d1 l2/\∃(l3:List Value),l3.length=65/\Pv Zz (Instr.build 175 #[(0,iv i),(1,agg l2.toArray)]) (agg l3.toArray)/\(Hb w4 d #[sK bd N cd,sK bn N cn,slice pe pn pc,iv fu,slice pk kn kc,bv dw,iv (i64.wrap (wr+1)),iv sy,iv st] 99->Ev Zz (Instr.buildSlice 97 1 #[(0,agg l3.toArray)]) w4 fun y2 w5 =>
 ∃a1 k1 k2,y2=slice a1 k1 k2/\∃l4,KpL l4 w4 w5/\af d l4/\(Hb w5 d #[sK bd N cd,sK bn N cn,slice pe pn pc,iv fu,slice pk kn kc,bv dw,iv (i64.wrap (wr+1)),iv sy,iv st] 99->Ev Zz (Builtin.append_ #[97,97] 97 #[slice pe pn pc,slice a1 k1 k2]) w5 fun y3 w6 =>
 ∃a2 k3 k4,y3=slice a2 k3 k4/\∃l5,KpL l5 w5 w6/\af d l5/\∀w7,KpL [d] w6 w7->Hb w7 d #[sK bd N cd,sK bn N cn,slice a2 k3 k4,iv fu,slice pk kn kc,bv dw,iv (i64.wrap (wr+1)),iv sy,iv st] 99->ag Zz 92 #[sK bn N cn,iv i] w7 fun e3 w8 =>
 ∃a3 k5 k6,e3=returned (slice a3 k5 k6)/\KpL [] w7 w8/\(Hb w8 d #[sK bd N cd,sK bn N cn,slice a2 k3 k4,iv fu,slice pk kn kc,bv dw,iv (i64.wrap (wr+1)),iv sy,iv st] 99->Ev Zz (Builtin.copy_ #[33,33] 3 #[slice a3 k5 k6,slice ba bl bc]) w8 fun y4 w9 =>
 ∃n2,y4=iv n2/\∃l6,KpL l6 w8 w9/\af d l6/\(Hb w9 d #[sK bd N cd,sK bn N cn,slice a2 k3 k4,iv fu,slice pk kn kc,bv dw,iv (i64.wrap (wr+1)),iv sy,iv st] 99->ag Zz 93 #[pK d] w9 fun e4 w10 =>
 ∃b2,e4=returned (bv b2)/\∃l7,KpL l7 w9 w10/\(b2=true->R (returned (iv 17)) w10)/\(b2=false->R (returned (iv 0)) w10)))))))))))/\(i<0->Hb w1 d #[sK bd N cd,sK bn N cn,slice pe pn pc,iv fu,slice pk kn kc,bv dw,iv wr,iv sy,iv st] 99->R (returned (iv 3)) w1))):Calls Zz 32 #[pK d,iv i,slice ba bl bc] w R :=
 dD (an:={ muts:=[93],all:=true,wrap:=true }) (args:=[.a (.c (.loc 0 0)),av (iv i),av (.slice ba bl bc)]) (rho:=[d]) (hp:=[(0,99,[.v (sK bd N cd),.v (sK bn N cn),.v (.slice pe pn pc),.v (iv fu),.v (.slice pk kn kc),.sb dw,.v (iv wr),.v (iv sy),.v (iv st)])]) aS Tryz.func32 (by kernel_rfl) rfl rfl hk (by simp) (by simpa using ab hk) rfl (by simp) h
theorem Bl{d bd bn N cd cn:Nat}{pe:Option Addr}{pn pc:Nat}{fu:Int}{pk:Option Addr}{kn kc:Nat}{dw:Bool}{wr sy st:Int}{ba:Option Addr}{bl bc:Nat}
 (hk:Hb w d #[sK bd N cd,sK bn N cn,slice pe pn pc,iv fu,slice pk kn kc,bv dw,iv wr,iv sy,iv st] 99)
 (h :
 ∃(P1:LP)(P2:LM),(Hb w d #[sK bd N cd,sK bn N cn,slice pe pn pc,iv fu,slice pk kn kc,bv dw,iv wr,iv sy,iv st] 99->P1 [iv 0] w)/\∀n1 w1,P1 [iv n1] w1->(n1<(↑pn:Int)->Ad pe n1 pn fun d1=>(Hb w1 d #[sK bd N cd,sK bn N cn,slice pe pn pc,iv fu,slice pk kn kc,bv dw,iv wr,iv sy,iv st] 99->∃(l1:List Value),l1.length=65/\ao w1 (d1.add (n1.toNat*65)) l1/\(Hb w1 d #[sK bd N cd,sK bn N cn,slice pe pn pc,iv fu,slice pk kn kc,bv dw,iv wr,iv sy,iv st] 99->Ev Zz (Instr.alloc 175 true (tuple #[])) w1 fun y1 w2 =>
 ∃d2,y1=pointer (some d2)/\∃l2,KpL l2 w1 w2/\af d l2/\l1.length=65/\(∀y2,y2∈l1->jA y2=true)/\(Hb w2 d #[sK bd N cd,sK bn N cn,slice pe pn pc,iv fu,slice pk kn kc,bv dw,iv wr,iv sy,iv st] 99->(∃(l3:List Value),ao w2 d2 l3/\l3.length=l1.length)/\aq w2 d2 l1.length/\af d [d2.block]/\∀w3,w3=bL w2 d2 l1 0->∃(P3:LP),(Hb w3 d #[sK bd N cd,sK bn N cn,slice pe pn pc,iv fu,slice pk kn kc,bv dw,iv wr,iv sy,iv st] 99->((0:Int)<(↑bl:Int)->(↑bl:Int)≠(0:Int)/\∃d3,ba=some d3/\(0:Int)<=n1.tmod (↑bl:Int)/\n1.tmod (↑bl:Int)<(↑bl:Int)/\(Hb w3 d #[sK bd N cd,sK bn N cn,slice pe pn pc,iv fu,slice pk kn kc,bv dw,iv wr,iv sy,iv st] 99->∃n2,ao w3 (d3.add ((n1.tmod (↑bl:Int)).toNat*(1:Nat))) [int u8 n2]/\ar i64 n2/\(Hb w3 d #[sK bd N cd,sK bn N cn,slice pe pn pc,iv fu,slice pk kn kc,bv dw,iv wr,iv sy,iv st] 99->P3 [iv n2] w3)))/\(¬(0:Int)<(↑bl:Int)->Hb w3 d #[sK bd N cd,sK bn N cn,slice pe pn pc,iv fu,slice pk kn kc,bv dw,iv wr,iv sy,iv st] 99->P3 [iv 0] w3))/\∀n3 w4,P3 [iv n3] w4->(65:Int)≠(0:Int)/\∃(P4:LP),(Hb w4 d #[sK bd N cd,sK bn N cn,slice pe pn pc,iv fu,slice pk kn kc,bv dw,iv wr,iv sy,iv st] 99->(128<=n3->ar i64 (64 - n3.tmod 65)/\(Hb w4 d #[sK bd N cd,sK bn N cn,slice pe pn pc,iv fu,slice pk kn kc,bv dw,iv wr,iv sy,iv st] 99->P4 [iv (64 - n3.tmod 65),iv 64] w4))/\(¬128<=n3->Hb w4 d #[sK bd N cd,sK bn N cn,slice pe pn pc,iv fu,slice pk kn kc,bv dw,iv wr,iv sy,iv st] 99->P4 [iv 0,iv (n3.tmod 65)] w4))/\∀n4 n5 w5,P4 [iv n4,iv n5] w5->∃n6,ao w5 (d2.add 0) [iv n6]/\∃a1 k1 k2,Pv Zz (Instr.sliceAt 91 (pointer (some (d2.add 1))) (some (iv n4)) (some (iv n5)) none) (slice a1 k1 k2)/\∀w6,KpL [] w5 w6->Hb w6 d #[sK bd N cd,sK bn N cn,slice pe pn pc,iv fu,slice pk kn kc,bv dw,iv wr,iv sy,iv st] 99->ag Zz 92 #[sK bd N cd,iv n6] w6 fun e1 w7 =>
 ∃a2 k3 k4,e1=returned (slice a2 k3 k4)/\KpL [] w6 w7/\∃a3 k5 k6,Pv Zz (Instr.sliceAt 33 (slice a2 k3 k4) (some (iv n4)) (some (iv n5)) none) (slice a3 k5 k6)/\(Hb w7 d #[sK bd N cd,sK bn N cn,slice pe pn pc,iv fu,slice pk kn kc,bv dw,iv wr,iv sy,iv st] 99->Ev Zz (Builtin.copy_ #[33,33] 3 #[slice a3 k5 k6,slice a1 k1 k2]) w7 fun y3 w8 =>
 ∃n7,y3=iv n7/\∃l4,KpL l4 w7 w8/\af d l4/\ar i64 (n1+1)/\(Hb w8 d #[sK bd N cd,sK bn N cn,slice pe pn pc,iv fu,slice pk kn kc,bv dw,iv wr,iv sy,iv st] 99->P1 [iv (n1+1)] w8/\P2 [iv (n1+1)] w8<P2 [iv n1] w1))))))/\(¬n1<(↑pn:Int)->∀w9,KpL [d,d,d,d] w1 w9->Hb w9 d #[sK bd N cd,sK bn N cn,slice none 0 0,iv (-1),slice none 0 0,bv true,iv wr,iv sy,iv st] 99->Ev Zz (Builtin.copy_ #[33,33] 3 #[sK bn N cn,sK bd N cd]) w9 fun y4 w10 =>
 ∃n8,y4=iv n8/\∃l5,KpL l5 w9 w10/\af d l5/\(Hb w10 d #[sK bd N cd,sK bn N cn,slice none 0 0,iv (-1),slice none 0 0,bv true,iv wr,iv sy,iv st] 99->R (returned (tuple #[])) w10))):Calls Zz 94 #[pK d,slice ba bl bc] w R :=
 dD (an:={ loops:=[⟨1,[14],rg 4 5++rg 15 37,[]⟩],cuts:=[⟨9,[7,8],[32,33,34,35],[]⟩,⟨6,[6],rg 19 11,[]⟩],all:=true }) (args:=[.a (.c (.loc 0 0)),av (.slice ba bl bc)]) (rho:=[d]) (hp:=[(0,99,[.v (sK bd N cd),.v (sK bn N cn),.v (.slice pe pn pc),.v (iv fu),.v (.slice pk kn kc),.sb dw,.v (iv wr),.v (iv sy),.v (iv st)])]) aS Tryz.func94 (by kernel_rfl) rfl rfl hk (by simp) (by simpa using ab hk) rfl (by simp) h
theorem A0{d bd bn N cd cn:Nat}{pe:Option Addr}{pn pc:Nat}{fu:Int}{pk:Option Addr}{kn kc:Nat}{dw:Bool}{wr sy st:Int}{i:Int}{ba:Option Addr}{bl bc:Nat}
 (hk:Hb w d #[sK bd N cd,sK bn N cn,slice pe pn pc,iv fu,slice pk kn kc,bv dw,iv wr,iv sy,iv st] 99)
 (h :
 Hb w d #[sK bd N cd,sK bn N cn,slice pe pn pc,iv fu,slice pk kn kc,bv dw,iv wr,iv sy,iv st] 99->ag Zz 62 #[pK d] w fun e1 w1 =>
 ∃b1,e1=returned (bv b1)/\KpL [] w w1/\((!b1)=true->Hb w1 d #[sK bd N cd,sK bn N cn,slice pe pn pc,iv fu,slice pk kn kc,bv dw,iv wr,iv sy,iv st] 99->R (returned (iv 1)) w1)/\((!b1)=false->(i<0->Hb w1 d #[sK bd N cd,sK bn N cn,slice pe pn pc,iv fu,slice pk kn kc,bv dw,iv wr,iv sy,iv st] 99->R (returned (iv 3)) w1)/\(¬i<0->((256:Int)<(↑bl:Int)->Hb w1 d #[sK bd N cd,sK bn N cn,slice pe pn pc,iv fu,slice pk kn kc,bv dw,iv wr,iv sy,iv st] 99->R (returned (iv 8)) w1)/\(¬(256:Int)<(↑bl:Int)->(dw=true->Hb w1 d #[sK bd N cd,sK bn N cn,slice pe pn pc,iv fu,slice pk kn kc,bv dw,iv wr,iv sy,iv st] 99->R (returned (iv 17)) w1)/\(dw=false->Hb w1 d #[sK bd N cd,sK bn N cn,slice pe pn pc,iv fu,slice pk kn kc,bv dw,iv wr,iv sy,iv st] 99->ag Zz 95 #[slice ba bl bc] w1 fun e2 w2 =>
 ∃a1 k1 k2,e2=returned (slice a1 k1 k2)/\KpL [] w1 w2/\∀w3,KpL [d,d] w2 w3->Hb w3 d #[sK bd N cd,sK bn N cn,slice pe pn pc,iv i,slice a1 k1 k2,bv dw,iv wr,iv sy,iv st] 99->R (returned (iv 0)) w3))))):Calls Zz 40 #[pK d,iv i,slice ba bl bc] w R :=
 dD (an:={ all:=true }) (args:=[.a (.c (.loc 0 0)),av (iv i),av (.slice ba bl bc)]) (rho:=[d]) (hp:=[(0,99,[.v (sK bd N cd),.v (sK bn N cn),.v (.slice pe pn pc),.v (iv fu),.v (.slice pk kn kc),.sb dw,.v (iv wr),.v (iv sy),.v (iv st)])]) aS Tryz.func40 (by kernel_rfl) rfl rfl hk (by simp) (by simpa using ab hk) rfl (by simp) h
theorem yH{d bd bn N cd cn:Nat}{pe:Option Addr}{pn pc:Nat}{fu:Int}{pk:Option Addr}{kn kc:Nat}{dw:Bool}{wr sy st:Int}{ba:Option Addr}{bl bc:Nat}
 (hk:Hb w d #[sK bd N cd,sK bn N cn,slice pe pn pc,iv fu,slice pk kn kc,bv dw,iv wr,iv sy,iv st] 99)
 (h :
 Hb w d #[sK bd N cd,sK bn N cn,slice pe pn pc,iv fu,slice pk kn kc,bv dw,iv wr,iv sy,iv st] 99->ag Zz 62 #[pK d] w fun e1 w1 =>
 ∃b1,e1=returned (bv b1)/\KpL [] w w1/\((!b1)=true->R (returned (iv 1)) w1)/\((!b1)=false->((256:Int)<(↑bl:Int)->R (returned (iv 8)) w1)/\(¬(256:Int)<(↑bl:Int)->(dw=true->R (returned (iv 17)) w1)/\(dw=false->Hb w1 d #[sK bd N cd,sK bn N cn,slice pe pn pc,iv fu,slice pk kn kc,bv dw,iv wr,iv sy,iv st] 99->ag Zz 94 #[pK d,slice ba bl bc] w1 fun e2 w2 =>
 e2=returned (tuple #[])/\∃l1,KpL l1 w1 w2/\R (returned (iv 0)) w2)))):Calls Zz 33 #[pK d,slice ba bl bc] w R :=
 dD (an:={ muts:=[94] }) (args:=[.a (.c (.loc 0 0)),av (.slice ba bl bc)]) (rho:=[d]) (hp:=[(0,99,[.v (sK bd N cd),.v (sK bn N cn),.v (.slice pe pn pc),.v (iv fu),.v (.slice pk kn kc),.sb dw,.v (iv wr),.v (iv sy),.v (iv st)])]) aS Tryz.func33 (by kernel_rfl) rfl rfl hk (by simp) (by simpa using ab hk) rfl (by simp) h
theorem uu{n:Int}
 (h :
 (¬n<64->(2048<n->R (returned (tuple #[pointer none,iv 3])) w)/\(¬2048<n->ar i64 (n*64)/\(∀w1,KpL [] w w1->Ev Zz (Instr.makeSlice 33 (iv (n*64)) (iv (n*64))) w1 fun y1 w2 =>
 ∃a1 k1 k2,y1=slice a1 k1 k2/\∃l1,KpL l1 w1 w2/\Ev Zz (Instr.makeSlice 33 (iv (n*64)) (iv (n*64))) w2 fun y2 w3 =>
 ∃a2 k3 k4,y2=slice a2 k3 k4/\∃l2,KpL l2 w2 w3/\∀k5,w3.heap.size<=k5->∀w4,KpL [] w3 w4->Hb w4 k5 #[slice a1 k1 k2,slice a2 k3 k4,slice none 0 0,iv (-1),slice none 0 0,bv false,iv 0,iv 0,iv 0] 99->R (returned (tuple #[pK k5,iv 0])) w4)/\∀w5,KpL [] w w5->Ev Zz (Instr.makeSlice 33 (iv (n*64)) (iv (n*64))) w5 fun y3 w6 =>
 ∃a3 k6 k7,y3=slice a3 k6 k7/\∃l3,KpL l3 w5 w6/\Ev Zz (Instr.makeSlice 33 (iv (n*64)) (iv (n*64))) w6 fun y4 w7 =>
 ∃a4 k8 k9,y4=slice a4 k8 k9/\∃l4,KpL l4 w6 w7/\∀k10,w7.heap.size<=k10->∀w8,KpL [] w7 w8->Hb w8 k10 #[slice a4 k8 k9,slice a3 k6 k7,slice none 0 0,iv (-1),slice none 0 0,bv false,iv 0,iv 0,iv 0] 99->R (returned (tuple #[pK k10,iv 0])) w8))/\(n<64->R (returned (tuple #[pointer none,iv 3])) w)):Calls Zz 19 #[iv n] w R :=
 fz { all:=true } [av (iv n)] Tryz.func19 h
theorem yv{a:Option Addr}{n c:Nat}{i:Int}
 (h :
 ar i64 (i*64)/\ar i64 (i+1)/\ar i64 ((i+1)*64)/\∃a1 k1 k2,Pv Zz (Instr.sliceAt 33 (slice a n c) (some (iv (i*64))) (some (iv ((i+1)*64))) none) (slice a1 k1 k2)/\R (returned (slice a1 k1 k2)) w):Calls Zz 92 #[slice a n c,iv i] w R :=
 fz {} [av (.slice a n c),av (iv i)] Tryz.func92 h
end
end Go.Vc
namespace Go.Vc
open Go Go.Proofs
variable {α:Type}
def eB(l:List Int):Prop:=∀x∈l,ar .u8 x
theorem eB.take{l:List Int}(h:eB l)(n:Nat):eB (l.take n):=fun x hx=>h x (List.mem_of_mem_take hx)
theorem eB.drop{l:List Int}(h:eB l)(n:Nat):eB (l.drop n):=fun x hx=>h x (List.mem_of_mem_drop hx)
theorem eB.app{l m:List Int}(h:eB l)(k:eB m):eB (l++m):=fun x hx=>(List.mem_append.1 hx).elim (h x) (k x)
structure ci (F:List Nat) (w:World) (F':List Nat) (w':World):Prop where
 kp:KpL F w w'
 new:∀b∈F',b∈F∨w.heap.size<=b
theorem ci.refl(F:List Nat)(w:World):ci F w F w:=⟨KpL.refl _ _,fun _ h=>.inl h⟩
theorem ci.trans{F F' F'':List Nat}{w w' w'':World}(h:ci F w F' w')(k:ci F' w' F'' w''):ci F w F'' w'' :=
 ⟨h.kp.more k.kp h.new,fun b hb=>(k.new b hb).elim (h.new b) fun hge=>.inr (Nat.le_trans h.kp.size hge)⟩
theorem ci.kp0{F F':List Nat}{w w' w'':World}(h:ci F w F' w')(k:KpL [] w' w''):ci F w F' w'':=⟨h.kp.trans (k.mono (by simp)),h.new⟩
theorem ci.of0{F:List Nat}{w w':World}(k:KpL [] w w'):ci F w F w':=(ci.refl F w).kp0 k
theorem ci.data{t:Ty α}{F F' N:List Nat}{w w':World}(h:ci F w F' w'){x:α}{cs:List Value}(hR:R t (F++N) w x cs):R t (F'++N) w' x cs :=
 t.mono hR fun b hb=>⟨⟨Nat.lt_of_lt_of_le hb.1 h.kp.size,fun hm=>by
  rcases List.mem_append.1 hm with hm|hm
  ·rcases h.new b hm with hm|hm
   ·exact hb.2 (List.mem_append_left _ hm)
   ·exact absurd hb.1 (by omega)
  ·exact hb.2 (List.mem_append_right _ hm)⟩,h.kp.blk b hb.1 fun hm=>hb.2 (List.mem_append_left _ hm)⟩
theorem R.step{t:Ty α}{M M' N:List Nat}{w w':World}{x:α}{cs:List Value}(h:R t M w x cs)(k:KpL N w w')(hs:∀b∈N,b∈M)(hn:∀b∈M',b∈M∨w.heap.size<=b):R t M' w' x cs :=
 t.mono h fun b hb=>⟨⟨Nat.lt_of_lt_of_le hb.1 k.size,fun hm=>by
  rcases hn b hm with hm|hm
  ·exact hb.2 hm
  ·have:=hb.1;omega⟩,k.blk b hb.1 fun hm=>hb.2 (hs b hm)⟩
theorem bI.step{e:Ty α}{M M' N:List Nat}{w w':World}{xs:List α}{a:Option Addr}{n c:Nat}(h:bI e M w xs a n c)(k:KpL N w w')(hs:∀b∈N,b∈M)(hn:∀b∈M',(b∈M∨w.heap.size<=b)/\b<w'.heap.size):bI e M' w' xs a n c:=by
 refine⟨h.len,h.cap,fun b hb=>(hn b hb).2,h.nil,fun ad had=>?_⟩
 obtain⟨b,arr,T,h1,h2,h3,h4,h5⟩:=h.at_ ad had
 have hlt:=ab h3
 refine⟨b,arr,T,h1,fun hm=>?_,by rw[k.blk b hlt (fun hm=>h2 (hs b hm))];exact h3,h4,h5.mono fun x hx=>⟨⟨Nat.lt_of_lt_of_le hx.1 k.size,fun hm=>?_⟩,k.blk x hx.1 fun hm=>hx.2 (List.mem_cons_of_mem _ (hs x hm))⟩⟩
 ·rcases (hn b hm).1 with hm|hm
  ·exact h2 hm
  ·omega
 ·rcases List.mem_cons.1 hm with rfl|hm
  ·exact hx.2 (by simp)
  ·rcases (hn x hm).1 with hm|hm
   ·exact hx.2 (List.mem_cons_of_mem _ hm)
   ·have:=hx.1;omega
def Fe:Ty (Int×List Int):=nD 65 (fun x=>iv x.1::x.2.map (Value.int .u8)) (fun x=>ar .i64 x.1/\x.2.length=64/\eB x.2) (fun x h=>by simp[h.2.1]) (by
 intro x v hv
 simp only[List.mem_cons,List.mem_map]at hv
 rcases hv with rfl|⟨a,_,rfl⟩<;>rfl)
theorem R.wr{M:List Nat}{w:World}{v:Int×List Int}{cs:List Value}(h:R Fe M w v cs):cs=iv v.1::v.2.map (Value.int .u8)/\ar .i64 v.1/\v.2.length=64/\eB v.2:=h
structure Dk where
 dur:List Int
 now:List Int
 pend:List (Int×List Int)
 fuse:Int
 picks:List Int
 down:Bool
 st:Int
 n:Nat
structure Dk.ok (k:Dk):Prop where
 secs:∃s,k.now.length=64*s/\1<=s/\s<=2048/\s=k.n
 len:k.dur.length=k.now.length
 dby:eB k.dur
 nby:eB k.now
 fin:ar .i64 k.fuse
 sin:ar .i64 k.st
 pend:∀p∈k.pend,0<=p.1/\64*p.1+64<=k.now.length
structure fP (M:List Nat) (w:World) (d:Nat) (k:Dk) (bd bn:Nat) (rd rn:List Value) (pe:Option Addr) (pn pc:Nat) (pk:Option Addr) (kn kc:Nat) (wr sy:Int):Prop where
 hd:w.heap[d]?=some (.cells #[sK bd k.now.length (k.now.length+rd.length),sK bn k.now.length (k.now.length+rn.length),.slice pe pn pc,iv k.fuse,.slice pk kn kc,.bool k.down,iv wr,iv sy,iv k.st] 99 (0,0))
 hbd:w.heap[bd]?=some (.cells (k.dur.map (Value.int .u8)++rd).toArray 5 (0,0))
 hbn:w.heap[bn]?=some (.cells (k.now.map (Value.int .u8)++rn).toArray 5 (0,0))
 pend:bI Fe (d::bd::bn::M) w k.pend pe pn pc
 picks:R (au (tI .u8)) (d::bd::bn::(aj pe++M)) w k.picks [.slice pk kn kc]
 d1:d≠bd
 d2:d≠bn
 d3:bd≠bn
 m1:d∉M
 m2:bd∉M
 m3:bn∉M
 ok:k.ok
def bz(M:List Nat)(w:World)(d:Nat)(k:Dk)(F:List Nat):Prop :=
 ∃bd bn rd rn pe pn pc pk kn kc wr sy,fP M w d k bd bn rd rn pe pn pc pk kn kc wr sy/\F=d::bd::bn::aj pe
theorem fP.step{M M' N:List Nat}{w w':World}{d:Nat}{k:Dk}{bd bn:Nat}{rd rn:List Value}{pe:Option Addr}{pn pc:Nat}{pk:Option Addr}{kn kc:Nat}{wr sy:Int}(h:fP M w d k bd bn rd rn pe pn pc pk kn kc wr sy)
 (kp:KpL N w w')(hs:∀b∈N,b∈M)(hn:∀b∈M',(b∈M∨w.heap.size<=b)/\b<w'.heap.size):fP M' w' d k bd bn rd rn pe pn pc pk kn kc wr sy:=by
 have l1:=ab h.hd
 have l2:=ab h.hbd
 have l3:=ab h.hbn
 have hout:∀x,x<w.heap.size->x∉M->x∉M':=fun x hx hxM hm=>(hn x hm).1.elim hxM (fun hge=>by omega)
 have hkeep:∀x,x<w.heap.size->x∉M->w'.heap[x]?=w.heap[x]?:=fun x hx hxM=>kp.blk x hx fun hm=>hxM (hs x hm)
 refine⟨by rw[hkeep d l1 h.m1];exact h.hd,by rw[hkeep bd l2 h.m2];exact h.hbd,by rw[hkeep bn l3 h.m3];exact h.hbn,h.pend.step kp (fun b hb=>by simp[hs b hb]) ?_,h.picks.step kp (fun b hb=>by simp[hs b hb]) ?_,
  h.d1,h.d2,h.d3,hout d l1 h.m1,hout bd l2 h.m2,hout bn l3 h.m3,h.ok⟩
 ·intro b hb
  simp only[List.mem_cons]at hb
  have hsz:=kp.size
  rcases hb with rfl|rfl|rfl|hb
  ·exact⟨.inl (by simp),by omega⟩
  ·exact⟨.inl (by simp),by omega⟩
  ·exact⟨.inl (by simp),by omega⟩
  ·exact⟨(hn b hb).1.imp (fun h=>by simp[h]) id,(hn b hb).2⟩
 ·intro b hb
  simp only[List.mem_cons,List.mem_append]at hb
  rcases hb with rfl|rfl|rfl|hb|hb
  ·exact .inl (by simp)
  ·exact .inl (by simp)
  ·exact .inl (by simp)
  ·exact .inl (by simp[hb])
  ·exact(hn b hb).1.imp (fun h=>by simp[h]) id
theorem fP.own_lt{M:List Nat}{w:World}{d:Nat}{k:Dk}{bd bn:Nat}{rd rn:List Value}{pe:Option Addr}{pn pc:Nat}{pk:Option Addr}{kn kc:Nat}{wr sy:Int}(h:fP M w d k bd bn rd rn pe pn pc pk kn kc wr sy):
 ∀b∈d::bd::bn::aj pe,b<w.heap.size/\b∉M:=by
 intro b hb
 simp only[List.mem_cons]at hb
 rcases hb with rfl|rfl|rfl|hb
 ·exact⟨ab h.hd,h.m1⟩
 ·exact⟨ab h.hbd,h.m2⟩
 ·exact⟨ab h.hbn,h.m3⟩
 ·have:=h.pend.blk_lt b hb
  exact⟨this.1,fun hm=>this.2 (by simp[hm])⟩
theorem bz.own_lt{M F:List Nat}{w:World}{d:Nat}{k:Dk}(h:bz M w d k F):∀b∈F,b<w.heap.size/\b∉M:=by
 obtain⟨_,_,_,_,_,_,_,_,_,_,_,_,h,rfl⟩:=h
 exact h.own_lt
theorem bz.ok{M F:List Nat}{w:World}{d:Nat}{k:Dk}(h:bz M w d k F):k.ok:=by
 obtain⟨_,_,_,_,_,_,_,_,_,_,_,_,h,rfl⟩:=h
 exact h.ok
theorem bz.step{M M' N F:List Nat}{w w':World}{d:Nat}{k:Dk}(h:bz M w d k F)(kp:KpL N w w')(hs:∀b∈N,b∈M)(hn:∀b∈M',(b∈M∨w.heap.size<=b)/\b<w'.heap.size):bz M' w' d k F:=by
 obtain⟨_,_,_,_,_,_,_,_,_,_,_,_,h,rfl⟩:=h
 exact⟨_,_,_,_,_,_,_,_,_,_,_,_,h.step kp hs hn,rfl⟩
theorem bz.mlt{M F:List Nat}{w:World}{d:Nat}{k:Dk}(h:bz M w d k F):∀b∈M,b<w.heap.size:=by
 obtain⟨_,_,_,_,_,_,_,_,_,_,_,_,h,rfl⟩:=h
 exact fun b hb=>h.pend.mlt b (by simp[hb])
theorem bz.kp0{M F:List Nat}{w w':World}{d:Nat}{k:Dk}(h:bz M w d k F)(kp:KpL [] w w'):bz M w' d k F :=
 h.step kp (by simp) fun b hb=>⟨.inl hb,Nat.lt_of_lt_of_le (h.mlt b hb) kp.size⟩
theorem fP.kp0{M:List Nat}{w w':World}{d:Nat}{k:Dk}{bd bn:Nat}{rd rn:List Value}{pe:Option Addr}{pn pc:Nat}{pk:Option Addr}{kn kc:Nat}{wr sy:Int}(h:fP M w d k bd bn rd rn pe pn pc pk kn kc wr sy)
 (kp:KpL [] w w'):fP M w' d k bd bn rd rn pe pn pc pk kn kc wr sy :=
 h.step kp (by simp) fun b hb=>⟨.inl hb,Nat.lt_of_lt_of_le (h.pend.mlt b (by simp[hb])) kp.size⟩
def Dk.secs(k:Dk):Nat:=k.n
def Dk.half(k:Dk):Nat:=(k.secs - 2) / 2
def aF(l:List Int)(i:Nat):List Int:=(l.drop (i*64)).take 64
section
variable {M F:List Nat} {w:World} {d:Nat} {k:Dk} (h:bz M w d k F)
include h
theorem gg:Calls Zz 62 #[pK d] w (aA (.bool true) w):=by
 obtain⟨bd,bn,rd,rn,pe,pn,pc,pk,kn,kc,wr,sy,h,rfl⟩:=h
 obtain⟨s,h1,h2,h3⟩:=h.ok.secs
 refine DF h.hd ⟨?_,KpL.refl _ _⟩
 rw[decide_eq_true]
 omega
theorem f7:Calls Zz 80 #[pK d] w (aA (iv k.secs) w):=by
 have h0:=h
 obtain⟨bd,bn,rd,rn,pe,pn,pc,pk,kn,kc,wr,sy,h,rfl⟩:=h
 obtain⟨s,h1,h2,h3⟩:=h.ok.secs
 refine tE h.hd fun _=>⟨(gg h0).mono ?_⟩
 rintro e w1 ⟨rfl,hk⟩
 refine⟨_,rfl,hk,fun hc=>by simp at hc,fun _=>⟨by omega,?_,hk⟩⟩
 have e1:Int.tdiv (k.now.length:Int) 64=(k.secs:Int):=by
  rw[Int.tdiv_eq_ediv_of_nonneg (by omega)]
  unfold Dk.secs
  omega
 rw[e1,aE (ae.2 _)]
 unfold Dk.secs
 omega
theorem fB(hs:2<=k.secs):Calls Zz 50 #[pK d] w (aA (iv k.half) w):=by
 have h0:=h
 obtain⟨bd,bn,rd,rn,pe,pn,pc,pk,kn,kc,wr,sy,h,rfl⟩:=h
 obtain⟨s,h1,h2,h3⟩:=h.ok.secs
 have e0:k.secs=s:=by unfold Dk.secs;omega
 refine As h.hd fun _=>⟨(f7 h0).mono ?_⟩
 rintro e w1 ⟨rfl,hk⟩
 refine⟨_,rfl,hk,ae.2 (by omega),by omega,?_,hk⟩
 have e1:Int.tdiv ((k.secs:Int) - 2) 2=(k.half:Int):=by
  rw[Int.tdiv_eq_ediv_of_nonneg (by omega)]
  unfold Dk.half
  omega
 rw[e1,aE (ae.2 _)]
 unfold Dk.half
 omega
end
theorem fE:Dj Zz 33 5 1 1:=B9.el
theorem lX{w:World}{a:Option Addr}{n c:Nat}{i:Nat}(h:(i+1)*64<=n)(hn:n<=c)(hc:n<=1099511627776):
 Calls Zz 92 #[.slice a n c,iv i] w (aA (.slice (if c=i*64 then a else a.map (·.add (i*64*1))) 64 (c - i*64)) w):=by
 refine yv ⟨ae.2 (by omega),ae.2 (by omega),ae.2 (by omega),_,_,_,dq fE (l:=i*64) (h:=(i+1)*64) (.inl ?_) (.inl ?_) (by omega) (by omega),?_⟩
 ·congr 2<;>omega
 ·congr 2<;>omega
 ·have e1:(i+1)*64 - i*64=64:=by omega
  rw[e1]
  exact⟨rfl,KpL.refl _ _⟩
end Go.Vc
namespace Go.Vc
open Go Go.Proofs
theorem fP.set{M:List Nat}{w w':World}{d:Nat}{k k':Dk}{bd bn:Nat}{rd rn:List Value}{pe pe':Option Addr}{pn pc pn' pc':Nat}{pk pk':Option Addr}{kn kc kn' kc':Nat}{wr sy wr' sy':Int}{N:List Nat}
 (h:fP M w d k bd bn rd rn pe pn pc pk kn kc wr sy)(kp:KpL N w w')(hN:∀b∈N,b=d)
 (hd:w'.heap[d]?=some (.cells #[sK bd k'.now.length (k'.now.length+rd.length),sK bn k'.now.length (k'.now.length+rn.length),.slice pe' pn' pc',iv k'.fuse,.slice pk' kn' kc',.bool k'.down,iv wr',iv sy',iv k'.st] 99 (0,0)))
 (e1:k'.dur=k.dur)(e2:k'.now=k.now)(hp:bI Fe (d::bd::bn::M) w k'.pend pe' pn' pc')(hq:R (au (tI .u8)) (d::bd::bn::(aj pe'++M)) w k'.picks [.slice pk' kn' kc'])(ok:k'.ok):
 fP M w' d k' bd bn rd rn pe' pn' pc' pk' kn' kc' wr' sy':=by
 have n1:bd∉N:=fun hm=>h.d1 (hN _ hm).symm
 have n2:bn∉N:=fun hm=>h.d2 (hN _ hm).symm
 refine⟨hd,by rw[kp.blk bd (ab h.hbd) n1,e1];exact h.hbd,by rw[kp.blk bn (ab h.hbn) n2,e2];exact h.hbn,
  hp.kp kp (fun b hb=>by simp[hN b hb]),hq.kp kp (fun b hb=>by simp[hN b hb]),h.d1,h.d2,h.d3,h.m1,h.m2,h.m3,ok⟩
theorem fP.setDur{M:List Nat}{w w':World}{d:Nat}{k:Dk}{bd bn:Nat}{rd rn:List Value}{pe:Option Addr}{pn pc:Nat}{pk:Option Addr}{kn kc:Nat}{wr sy:Int}{du:List Int}
 (h:fP M w d k bd bn rd rn pe pn pc pk kn kc wr sy)(kp:KpL [bd] w w')(hbd:w'.heap[bd]?=some (.cells (du.map (Value.int .u8)++rd).toArray 5 (0,0)))(hl:du.length=k.dur.length)(hb:eB du):
 fP M w' d { k with dur:=du } bd bn rd rn pe pn pc pk kn kc wr sy:=by
 have n1:d∉[bd]:=by simp[h.d1]
 have n2:bn∉[bd]:=by simp;exact fun e=>h.d3 e.symm
 exact⟨by rw[kp.blk d (ab h.hd) n1];exact h.hd,hbd,by rw[kp.blk bn (ab h.hbn) n2];exact h.hbn,h.pend.kp kp (by simp),h.picks.kp kp (by simp),h.d1,h.d2,h.d3,h.m1,h.m2,h.m3,
  ⟨h.ok.secs,by rw[<-h.ok.len];exact hl,hb,h.ok.nby,h.ok.fin,h.ok.sin,h.ok.pend⟩⟩
theorem fP.setNow{M:List Nat}{w w':World}{d:Nat}{k:Dk}{bd bn:Nat}{rd rn:List Value}{pe:Option Addr}{pn pc:Nat}{pk:Option Addr}{kn kc:Nat}{wr sy:Int}{du:List Int}
 (h:fP M w d k bd bn rd rn pe pn pc pk kn kc wr sy)(kp:KpL [bn] w w')(hbn:w'.heap[bn]?=some (.cells (du.map (Value.int .u8)++rn).toArray 5 (0,0)))(hl:du.length=k.now.length)(hb:eB du):
 fP M w' d { k with now:=du } bd bn rd rn pe pn pc pk kn kc wr sy:=by
 have n1:d∉[bn]:=by simp[h.d2]
 have n2:bd∉[bn]:=by simp[h.d3]
 have hd:=h.hd
 rw[<-hl]at hd
 exact⟨by rw[kp.blk d (ab h.hd) n1];exact hd,by rw[kp.blk bd (ab h.hbd) n2];exact h.hbd,hbn,h.pend.kp kp (by simp),h.picks.kp kp (by simp),h.d1,h.d2,h.d3,h.m1,h.m2,h.m3,
  ⟨by rw[hl];exact h.ok.secs,by rw[h.ok.len];exact hl.symm,h.ok.dby,hb,h.ok.fin,h.ok.sin,by rw[hl];exact h.ok.pend⟩⟩
def dM(dur:List Int)(at_:Nat)(b:List Int)(f t:Nat):List Int:=dur.take (at_*64+f)++((b.drop f).take (t - f)++dur.drop (at_*64+t))
def fb(ps:List Int)(i:Nat):Int:=if ps.length=0 then 0 else ps.getD (i%ps.length) 0
def dP(p:Int):Nat×Nat:=if 128<=p then (64 - (p%65).toNat,64) else (0,(p%65).toNat)
def fk(ps:List Int):Nat->List (Int×List Int)->List Int->List Int
 |_,[],dur=>dur
 |i,x::r,dur=>fk ps (i+1) r (dM dur x.1.toNat x.2 (dP (fb ps i)).1 (dP (fb ps i)).2)
theorem wO(p:Int)(h:0<=p):(dP p).1<=(dP p).2/\(dP p).2<=64:=by
 unfold dP
 split<;>simp<;>omega
theorem lZ{dur:List Int}{at_:Nat}{b:List Int}{f t:Nat}(h1:f<=t)(h2:t<=64)(hb:b.length=64)(h:at_*64+64<=dur.length):(dM dur at_ b f t).length=dur.length:=by
 unfold dM
 simp
 omega
theorem rL{dur:List Int}{at_:Nat}{b:List Int}{f t:Nat}(hd:eB dur)(hb:eB b):eB (dM dur at_ b f t) :=
 (hd.take _).app (((hb.drop _).take _).app (hd.drop _))
def Dk.fall(k:Dk)(ps:List Int):Dk :=
 { dur:=fk ps 0 k.pend k.dur,now:=fk ps 0 k.pend k.dur,pend:=[],fuse:=-1,picks:=[],down:=true,st:=k.st,n:=k.n }
theorem Ch:∃z:List Value,z.length=65/\∃zv,(∀w,(zeroValue 175).run Zz w=.ok zv w)/\zv.cells=z.toArray:=by
 obtain⟨zv,h1,h2⟩:=(me (P:=Zz) (st:=97) (te:=175) (sz:=65) (by_:=72) (by kernel_rfl)).zero
 exact⟨zv.cells.toList,by simpa using h2,zv,h1,by simp⟩
theorem FF:Tryz.prog.underlying 91=some (.array 64 5):=by kernel_rfl
theorem rk(ps:List Int)(l:List (Int×List Int))(i:Nat)(hi:i<l.length)(dur:List Int):
 fk ps i (l.drop i) dur=fk ps (i+1) (l.drop (i+1)) (dM dur l[i].1.toNat l[i].2 (dP (fb ps i)).1 (dP (fb ps i)).2):=by
 rw[List.drop_eq_getElem_cons hi]
 rfl
set_option maxHeartbeats 1000000 in
theorem tp{M F:List Nat}{w:World}{d:Nat}{k:Dk}(h:bz M w d k F){ps:List Int}{ba:Option Addr}{bl bc:Nat}(hps:R (au (tI .u8)) F w ps [.slice ba bl bc])(hpl:k.pend.length<=1099511627776):
 Calls Zz 94 #[pK d,.slice ba bl bc] w fun e w'=>e=.returned (.tuple #[])/\∃F',bz M w' d (k.fall ps) F'/\ci F w F' w':=by
 obtain⟨bd,bn,rd,rn,pe,pn,pc,pk,kn,kc,wr,sy,h,rfl⟩:=h
 have hmx:az=140737488355328:=rfl
 have hpn:=h.pend.len
 obtain⟨z,hz,hzv⟩:=Ch
 obtain⟨rfl,hbl1,hbl2⟩:=hps.sl_len
 refine Bl h.hd ⟨fun vs w'=>∃i du,vs=[iv i]/\0<=i/\i<=k.pend.length/\fP M w' d { k with dur:=du } bd bn rd rn pe pn pc pk kn kc wr sy/\KpL [bd] w w'/\du.length=k.dur.length/\
  fk ps i.toNat (k.pend.drop i.toNat) du=fk ps 0 k.pend k.dur,
  fun vs _=>match vs with|[.int _ i]=>k.pend.length - i.toNat|_=>0,fun _=>⟨0,k.dur,rfl,by omega,by omega,h,KpL.refl _ _,rfl,rfl⟩,?_⟩
 rintro n1 w1 ⟨i,du,hv,hi0,hi1,hD,hK,hdl,ht⟩
 obtain rfl:=v1 hv
 constructor
 ·intro hlt
  have hi:n1.toNat<k.pend.length:=by omega
  have hRp:=hD.pend.done (by omega)
  obtain⟨ad,cs,rfl,hv,hld,hadM,hadl⟩:=hRp.sl_get hi
  obtain⟨rfl,hwi,hwl,hwb⟩:=hv.wr
  have hpo:=h.ok.pend _ (List.getElem_mem hi)
  simp only at hwl hwb hwi hpo
  have htd:=rk ps k.pend n1.toNat hi du
  generalize hx:k.pend[n1.toNat]=x at *
  obtain⟨at_,b⟩:=x
  simp only at hwl hwb hwi hpo htd hld
  obtain⟨a,rfl⟩:∃a:Nat,at_=a:=⟨at_.toNat,by omega⟩
  rw[Int.toNat_natCast]at htd
  have hlen1:(Value.int .i64 (a:Int)::b.map (Value.int .u8)).length=65:=by simp[hwl]
  refine⟨_,rfl,hi0,by omega,fun _=>⟨_,hlen1,hld,fun _=>iZ hzv fun w2 hb2 hk2=>⟨_,rfl,_,hk2,⟨by simp⟩,hlen1,?_,fun _=>⟨⟨z,?_,by rw[hz,hlen1]⟩,bE hb2,⟨?_⟩,?_⟩⟩⟩⟩
  ·intro y hy
   simp only[List.mem_cons,List.mem_map]at hy
   rcases hy with rfl|⟨_,_,rfl⟩<;>rfl
  ·exact ak hb2 0 _ (by simp)
  ·have:=ab hD.hd
   simp only[List.mem_singleton]
   omega
  rintro w3 rfl
  have hk3:KpL [w1.heap.size] w2 (bL w2 ⟨w1.heap.size,0,none⟩ (Value.int .i64 (a:Int)::b.map (Value.int .u8)) 0):=cK w2 ⟨w1.heap.size,0,none⟩ _
  have hb3:=cL (off:=0) (l:=Value.int .i64 (a:Int)::b.map (Value.int .u8)) hb2 (by rw[hlen1,hz];simp)
  rw[List.take_zero,List.nil_append,hlen1,List.drop_eq_nil_of_le (by omega),List.append_nil]at hb3
  generalize hw3:bL w2 ⟨w1.heap.size,0,none⟩ (Value.int .i64 (a:Int)::b.map (Value.int .u8)) 0=w3 at hk3 hb3 ⊢
  have hkf:KpL [] w1 w3:=hk2.more hk3 (by simp)
  have hD3:=hD.kp0 hkf
  have hps3:R (au (tI .u8)) (d::bd::bn::aj (some ad)) w3 ps [.slice ba ps.length bc]:=(hps.kp hK (by simp)).kp0 hkf
  have hp0:0<=fb ps n1.toNat/\fb ps n1.toNat<=255:=by
   unfold fb
   split
   ·omega
   ·rename_i hne
    have hlt:n1.toNat%ps.length<ps.length:=Nat.mod_lt _ (by omega)
    rw[List.getD_eq_getElem?_getD,List.getElem?_eq_getElem hlt,Option.getD_some]
    exact bC.1 (hps.ints _ (List.getElem_mem hlt))
  have hft:=wO _ hp0.1
  refine⟨fun vs w'=>w'=w3/\vs=[iv (fb ps n1.toNat)],fun _=>⟨fun hpos=>?_,fun hnp _=>⟨rfl,?_⟩⟩,?_⟩
  ·have hlt:n1.toNat%ps.length<ps.length:=Nat.mod_lt _ (by omega)
   obtain⟨ad2,cs2,rfl,hv2,hld2,_,_⟩:=hps3.sl_get hlt
   obtain⟨rfl,hin2⟩:=hv2.intD
   have e1:Int.tmod n1 (ps.length:Int)=((n1.toNat%ps.length:Nat):Int):=by
    rw[Int.tmod_eq_emod_of_nonneg hi0,Int.natCast_emod,Int.toNat_of_nonneg hi0]
   have e2:fb ps n1.toNat=ps[n1.toNat%ps.length]:=by
    unfold fb
    rw[if_neg (by omega),List.getD_eq_getElem?_getD,List.getElem?_eq_getElem hlt,Option.getD_some]
   rw[e1]
   have hin8:=bC.1 hin2
   exact⟨by omega,ad2,rfl,by omega,by omega,fun _=>⟨_,hld2,ae.2 (by omega),fun _=>⟨rfl,by rw[e2]⟩⟩⟩
  ·unfold fb
   rw[if_pos (by omega)]
  rintro n3 w4 ⟨rfl,hv⟩
  obtain rfl:=v1 hv
  generalize hpk:fb ps n1.toNat=p at *
  have e65:Int.tmod p 65=p%65:=Int.tmod_eq_emod_of_nonneg hp0.1
  refine⟨by omega,fun vs w'=>w'=w4/\vs=[iv ((dP p).1:Nat),iv ((dP p).2:Nat)],fun _=>⟨fun hge=>⟨ae.2 (by omega),fun _=>⟨rfl,?_⟩⟩,fun hlt2 _=>⟨rfl,?_⟩⟩,?_⟩
  ·rw[e65]
   unfold dP
   rw[if_pos hge]
   simp only[List.cons.injEq,Value.int.injEq,true_and,and_true]
   omega
  ·rw[e65]
   unfold dP
   rw[if_neg hlt2]
   simp only[List.cons.injEq,Value.int.injEq,true_and,and_true]
   omega
  rintro n4 n5 w5 ⟨rfl,hv⟩
  simp only[List.cons.injEq,Value.int.injEq,true_and,and_true]at hv
  obtain⟨rfl,rfl⟩:=hv
  generalize hff:(dP p).1=f at *
  generalize htt:(dP p).2=t at *
  have hN:k.now.length<=131072:=by obtain⟨s,h1,h2,h3⟩:=h.ok.secs;omega
  have hdN:du.length=k.now.length:=hdl.trans h.ok.len
  refine⟨_,ak hb3 0 _ (by simp),_,_,_,iF FF fE.size (l:=f) (h:=t) (.inl rfl) (.inl rfl) hft.1 hft.2,fun w6 hk6 _=>⟨(lX (i:=a) (n:=k.now.length) (by omega) (Nat.le_add_right _ _) (by omega)).mono ?_⟩⟩
  rintro e w7 ⟨rfl,hk7⟩
  rw[if_neg (by omega),Option.map_some,al,Nat.zero_add,Nat.mul_one]
  refine⟨_,_,_,rfl,hk7,_,_,_,dq fE (l:=f) (h:=t) (.inl rfl) (.inl rfl) hft.1 (by omega),fun _=>?_⟩
  have hk57:KpL [] w5 w7:=hk6.trans hk7
  have hD7:=hD3.kp0 hk57
  have hb7:w7.heap[w1.heap.size]?=_:=(hk57.blk _ (ab hb3) (by simp)).trans hb3
  have hRb:R (au (tI .u8)) [] w7 b [.slice (some ⟨w1.heap.size,1,none⟩) 64 64]:=by
   refine⟨_,64,by rw[hwl],by omega,by omega,fun _=>⟨w1.heap.size,1,_,175,_,rfl,⟨ab hb7,by simp⟩,hb7,fun j x hx=>⟨[.int .u8 x],⟨rfl,hwb x (List.mem_of_getElem? hx)⟩,fun m v hv=>?_⟩⟩⟩
   cases m with
   |succ m=>simp at hv
   |zero =>
    simp at hv
    subst hv
    show(Value.int .i64 (a:Int)::b.map (Value.int .u8)).toArray.toList[1+j*1+0]?=_
    rw[show 1+j*1+0=j+1 from by omega]
    simp[hx]
  have hRs:=hRb.sub f t hft.1 (by omega)
  have e3:(if 64=f then (some ⟨w1.heap.size,1,none⟩:Option Addr) else (some ⟨w1.heap.size,1,none⟩:Option Addr).map (·.add (f*(tI .u8).sz)))=some (if 64=f then (Addr.add ⟨w1.heap.size,0,none⟩ 1) else (Addr.add ⟨w1.heap.size,0,none⟩ 1).add (f*1)):=by
   have:(tI .u8).sz=1:=rfl
   split<;>simp only[Option.map_some,al,Nat.zero_add,this]
  rw[e3]at hRs
  obtain⟨off,hoff,hoff2⟩:∃off,(if k.now.length+rd.length - a*64=f then (some ⟨bd,a*64,none⟩:Option Addr) else (some ⟨bd,a*64,none⟩:Option Addr).map (·.add (f*1)))=some ⟨bd,off,none⟩/\(off=a*64+f∨f=t/\off=a*64):=by
   split
   ·exact⟨_,rfl,.inr ⟨by omega,rfl⟩⟩
   ·exact⟨_,by rw[Option.map_some,al],.inl (by omega)⟩
  rw[hoff]
  refine jy (M:=[]) fE (arr:=du.map (Value.int .u8)++rd) hD7.hbd (by show off+(t - f)*1<=_;rw[List.length_append,List.length_map];omega) hRs fun w8 ly hfl hb8 hk8=>⟨_,rfl,_,hk8,⟨by simp[h.d1]⟩,ae.2 (by omega),fun _=>?_⟩
  have hly:=eW hfl
  have htk:((b.drop f).take (t - f)).take (min (t - f) (t - f))=(b.drop f).take (t - f):=by rw[Nat.min_self,List.take_take,Nat.min_self]
  rw[htk]at hly
  subst hly
  have hll:((b.drop f).take (t - f)).length=t - f:=by simp;omega
  have hoff3:off+(t - f)<=du.length:=by omega
  have hnew:(du.map (Value.int .u8)++rd).take off++((((b.drop f).take (t - f)).map (Value.int .u8))++(du.map (Value.int .u8)++rd).drop (off+(((b.drop f).take (t - f)).map (Value.int .u8)).length))=(dM du a b f t).map (Value.int .u8)++rd:=by
   rw[List.length_map,hll,List.take_append_of_le_length (by rw[List.length_map];omega),List.drop_append_of_le_length (by rw[List.length_map];omega),<-List.append_assoc,<-List.append_assoc]
   congr 1
   unfold dM
   simp only[List.map_append,List.map_take,List.map_drop,List.append_assoc]
   rcases hoff2 with rfl|⟨rfl,rfl⟩
   ·rw[show a*64+f+(t - f)=a*64+t from by omega]
   ·rw[Nat.sub_self,List.take_zero,List.nil_append,List.nil_append,Nat.add_zero,List.take_append_drop,List.take_append_drop]
  rw[hnew]at hb8
  have hkall:KpL [bd] w1 w8:=by
   have:KpL [] w1 w7:=hkf.trans hk57
   exact(this.mono (by simp)).trans hk8
  have e4:(n1+1).toNat=n1.toNat+1:=by omega
  have hD8:=hD7.setDur hk8 hb8 (by rw[lZ hft.1 hft.2 hwl (by omega)]) (rL hD.ok.dby hwb)
  refine⟨⟨n1+1,dM du a b f t,rfl,by omega,by omega,hD8,hK.trans hkall,by rw[lZ hft.1 hft.2 hwl (by omega)];exact hdl,by rw[e4,<-htd];exact ht⟩,?_⟩
  show k.pend.length - (n1+1).toNat<k.pend.length - n1.toNat
  omega
 ·intro hge w9 hk9 hd9
  have e1:n1.toNat=k.pend.length:=by omega
  have hN:k.now.length<=131072:=by obtain⟨s,h1,h2,h3⟩:=h.ok.secs;omega
  rw[e1,List.drop_length]at ht
  have ht':du=fk ps 0 k.pend k.dur:=ht
  have hD9:fP M w9 d { k with dur:=du,pend:=[],fuse:=-1,picks:=[],down:=true } bd bn rd rn none 0 0 none 0 0 wr sy :=
   hD.set hk9 (by simp) hd9 rfl rfl (bI.nil' _ hD.pend.mlt) (R.sl_nil _ _ _ _ _) ⟨hD.ok.secs,hD.ok.len,hD.ok.dby,hD.ok.nby,ae.2 (by simp),hD.ok.sin,fun p hp=>by simp at hp⟩
  have hdN:du.length=k.now.length:=hdl.trans h.ok.len
  have hRd:R (au (tI .u8)) [] w9 du [sK bd k.now.length (k.now.length+rd.length)]:=by
   have:=R.ofBlk (M:=[]) (c:=k.now.length+rd.length) hD9.hbd (by simp) hD.ok.dby (by show du.length<=_;omega) (by show du.length<=_;omega)
   rw[show({ k with dur:=du,pend:=[],fuse:=-1,picks:=[],down:=true }:Dk).dur=du from rfl,hdN]at this
   exact this
  refine jy fE (arr:=k.now.map (Value.int .u8)++rn) hD9.hbn (by show 0+k.now.length*1<=_;rw[List.length_append,List.length_map];omega) hRd fun w10 ly hfl hb10 hk10=>⟨_,rfl,_,hk10,⟨by simp[h.d2]⟩,fun _=>⟨rfl,?_⟩⟩
  have hly:=eW hfl
  rw[Nat.min_self,List.take_of_length_le (by omega)]at hly
  subst hly
  rw[List.take_zero,List.nil_append,Nat.zero_add,List.drop_append_of_le_length (by simp;omega),List.drop_eq_nil_of_le (by simp;omega),List.nil_append]at hb10
  have hD10:=hD9.setNow hk10 hb10 hdN hD.ok.dby
  refine⟨d::bd::bn::aj none,⟨bd,bn,rd,rn,none,0,0,none,0,0,wr,sy,?_,rfl⟩,⟨?_,?_⟩⟩
  ·have:k.fall ps={ k with dur:=du,now:=du,pend:=[],fuse:=-1,picks:=[],down:=true }:=by
    unfold Dk.fall
    rw[ht']
   rw[this]
   exact hD10
  ·refine((hK.mono ?_).trans (hk9.mono ?_)).trans (hk10.mono ?_)<;>simp
  ·intro b hb
   simp[aj]at hb
   left
   rcases hb with rfl|rfl|rfl<;>simp
end Go.Vc
namespace Go.Vc
open Go Go.Proofs
def Dk.fails(k:Dk):Bool×Dk:=if k.fuse=0 then (true,k.fall k.picks) else if 0<k.fuse then (false,{ k with fuse:=k.fuse - 1 }) else (false,k)
def Dk.put(k:Dk)(i:Nat)(b:List Int):Dk:={ k with pend:=k.pend++[((i:Int),b)],now:=dM k.now i b 0 64 }
def Dk.write(k:Dk)(i:Nat)(b:List Int):Int×Dk:=if k.down=true then (17,k) else (if (k.put i b).fails.1=true then 17 else 0,(k.put i b).fails.2)
def Dk.sync(k:Dk):Int×Dk:=if k.down=true then (17,k) else if k.fails.1=true then (17,k.fails.2) else (0,{ k.fails.2 with dur:=k.fails.2.now,pend:=[] })
def Dk.restart(k:Dk):Dk:={ k with down:=false,fuse:=-1,picks:=[] }
def gp(M F:List Nat)(w:World)(d:Nat)(k:Dk)(w':World):Prop:=∃F',bz M w' d k F'/\ci F w F' w'
theorem gp.of{M F:List Nat}{w w':World}{d:Nat}{k:Dk}{bd bn:Nat}{rd rn:List Value}{pe:Option Addr}{pn pc:Nat}{pk:Option Addr}{kn kc:Nat}{wr sy:Int}(h:fP M w' d k bd bn rd rn pe pn pc pk kn kc wr sy)(hO:ci F w (d::bd::bn::aj pe) w'):gp M F w d k w' :=
 ⟨_,⟨_,_,_,_,_,_,_,_,_,_,_,_,h,rfl⟩,hO⟩
theorem FJ:oe Zz 97 97 175 65 72:=bM (by kernel_rfl)
theorem Fy:∃z,og Zz 175=some z/\z.length=65:=by
 have h:(og Zz 175).map (·.length)=some 65:=by kernel_rfl
 exact Option.map_eq_some_iff.1 h
theorem EB:∃pl,vf Zz 175=some pl/\pl 0=some (0,1)/\pl 1=some (1,64) :=
 ⟨qz Zz [⟨"at",3,0,false, "", "tesseract/ingest",0⟩,⟨"b",91,1,false, "", "tesseract/ingest",8⟩],by kernel_rfl,by kernel_rfl,by kernel_rfl⟩
theorem Ay{i:Int}{l:List Value}(hl:l.length=64):Pv Zz (Instr.build 175 #[(0,iv i),(1,.agg l.toArray)]) (.agg (Value.int .i64 i::l).toArray):=by
 obtain⟨z,hz,hzl⟩:=Fy
 obtain⟨pl,hp,hp0,hp1⟩:=EB
 have hf:rZ Zz 175 [(0,.a (.c (.v (iv i)))),(1,.a (.agg (BG l)))]=some (.v (iv i)::BG l):=by
  have ha:kY Zz 175=true:=by kernel_rfl
  have hol:(BG l).length=64:=by rw[vu];simpa using hl
  unfold rZ
  simp only[ha,hz,hp]
  rw[pR (cs:=[.v (iv i)]) hp0 rfl rfl (show 0+1<=z.length by omega),pR (cs:=BG l) hp1 rfl hol (by rw[eM];omega)]
  simp only[im,Option.some.injEq]
  rw[fq _ _ _ (by rw[eM,hol];omega),fq _ _ _ (by simp;omega)]
  rw[List.take_zero,List.nil_append]
  have e1:([C.v (Value.int .i64 i)]++z.drop (0+[C.v (Value.int .i64 i)].length)).drop (1+(BG l).length)=[]:=List.drop_eq_nil_of_le (by simp[hol,hzl])
  rw[e1,List.append_nil]
  simp
 have:=(mW (ρ:=[]) hf (by
  intro p hp
  simp only[List.mem_cons,List.not_mem_nil,or_false]at hp
  rcases hp with rfl|rfl
  ·exact⟨trivial,rfl⟩
  ·exact⟨Ak _ _,rfl⟩)).2
 refine⟨fun w=>?_⟩
 have h2:=this w
 simpa[kz,V.den,A.den,C.den,wn,bJ]using h2
section
variable {M F:List Nat} {w:World} {d:Nat} {k:Dk} (h:bz M w d k F)
include h
theorem pp(hpl:k.pend.length<=1099511627776):Calls Zz 93 #[pK d] w fun e w'=>e=.returned (.bool k.fails.1)/\gp M F w d k.fails.2 w':=by
 have h0:=h
 obtain⟨bd,bn,rd,rn,pe,pn,pc,pk,kn,kc,wr,sy,h,rfl⟩:=h
 have hfi:=ae.1 h.ok.fin
 refine zb h.hd ⟨fun hz _=>⟨(tp h0 (ps:=k.picks) (ba:=pk) (bl:=kn) (bc:=kc) (h.picks.weak ?_) hpl).mono ?_⟩,fun hne=>⟨fun hpos w2 hk2 hd2=>⟨?_,?_⟩,fun hnp _=>⟨?_,?_⟩⟩⟩
 ·intro b hb
  simp only[List.mem_cons]at hb ⊢
  rcases hb with rfl|rfl|rfl|hb
  ·simp
  ·simp
  ·simp
  ·simp[hb]
 ·rintro e w1 ⟨rfl,F',hD,hO⟩
  refine⟨rfl,_,hO.kp,?_,F',?_,hO⟩
  ·unfold Dk.fails;rw[if_pos hz]
  ·unfold Dk.fails;rw[if_pos hz];exact hD
 ·unfold Dk.fails;rw[if_neg hne,if_pos hpos]
 ·have e1:IntKind.i64.wrap (k.fuse - 1)=k.fuse - 1:=aE (ae.2 (by omega))
  rw[e1]at hd2
  have hk':k.fails.2={ k with fuse:=k.fuse - 1 }:=by unfold Dk.fails;rw[if_neg hne,if_pos hpos]
  rw[hk']
  refine⟨_,⟨_,_,_,_,_,_,_,_,_,_,_,_,h.set (k':={ k with fuse:=k.fuse - 1 }) hk2 (by simp) hd2 rfl rfl h.pend h.picks ⟨h.ok.secs,h.ok.len,h.ok.dby,h.ok.nby,ae.2 (by show _<=k.fuse - 1/\k.fuse - 1<=_;omega),h.ok.sin,h.ok.pend⟩,rfl⟩,hk2.mono (by simp),fun b hb=>.inl hb⟩
 ·unfold Dk.fails;rw[if_neg hne,if_neg hnp]
 ·have hk':k.fails.2=k:=by unfold Dk.fails;rw[if_neg hne,if_neg hnp]
  rw[hk']
  exact⟨_,h0,ci.refl _ _⟩
theorem sP:Calls Zz 34 #[pK d] w fun e w'=>e=.returned (iv 0)/\gp M F w d k.restart w':=by
 have h0:=h
 obtain⟨bd,bn,rd,rn,pe,pn,pc,pk,kn,kc,wr,sy,h,rfl⟩:=h
 refine ru h.hd fun _=>⟨(gg h0).mono ?_⟩
 rintro e w1 ⟨rfl,hk1⟩
 refine⟨_,rfl,hk1,fun hc=>by simp at hc,fun _ w2 hk2 hd2=>⟨rfl,?_⟩⟩
 have h1:=h.kp0 hk1
 exact⟨_,⟨_,_,_,_,_,_,_,_,_,_,_,_,h1.set (k':=k.restart) hk2 (by simp) hd2 rfl rfl h1.pend (R.sl_nil _ _ _ _ _) ⟨h.ok.secs,h.ok.len,h.ok.dby,h.ok.nby,ae.2 (by simp[Dk.restart]),h.ok.sin,h.ok.pend⟩,rfl⟩,
  (hk1.mono (by simp)).trans (hk2.mono (by simp)),fun b hb=>.inl hb⟩
theorem iV(hpl:k.pend.length<=1099511627776):Calls Zz 37 #[pK d] w fun e w'=>e=.returned (iv k.sync.1)/\gp M F w d k.sync.2 w':=by
 have h0:=h
 obtain⟨bd,bn,rd,rn,pe,pn,pc,pk,kn,kc,wr,sy,h,rfl⟩:=h
 refine A6 h.hd fun _=>⟨(gg h0).mono ?_⟩
 rintro e w1 ⟨rfl,hk1⟩
 have h1:=h.kp0 hk1
 refine⟨_,rfl,hk1,fun hc=>by simp at hc,fun _=>⟨fun hdn _=>⟨?_,?_⟩,fun hup w2 hk2 hd2=>?_⟩⟩
 ·unfold Dk.sync;rw[if_pos hdn]
 ·unfold Dk.sync;rw[if_pos hdn]
  exact⟨_,h0.kp0 hk1,ci.of0 hk1⟩
 have h2:=h1.set (k':=k) hk2 (by simp) hd2 rfl rfl h1.pend h1.picks h.ok
 have hO2:ci (d::bd::bn::aj pe) w (d::bd::bn::aj pe) w2:=⟨(hk1.mono (by simp)).trans (hk2.mono (by simp)),fun b hb=>.inl hb⟩
 refine⟨(pp ⟨_,_,_,_,_,_,_,_,_,_,_,_,h2,rfl⟩ hpl).mono ?_⟩
 rintro e w3 ⟨rfl,F3,hD3,hO3⟩
 refine⟨_,rfl,_,hO3.kp,fun hf=>⟨?_,?_⟩,fun hf=>?_⟩
 ·unfold Dk.sync;rw[if_neg (by simp[hup]),if_pos hf]
 ·unfold Dk.sync;rw[if_neg (by simp[hup]),if_pos hf]
  exact⟨_,hD3,hO2.trans hO3⟩
 obtain⟨bd3,bn3,rd3,rn3,pe3,pn3,pc3,pk3,kn3,kc3,wr3,sy3,h3,rfl⟩:=hD3
 refine⟨_,_,_,ak h3.hd 0 _ rfl,_,_,_,ak h3.hd 1 _ rfl,fun w4 hk4=>?_⟩
 have h4:=h3.kp0 hk4
 have hN:k.fails.2.now.length<=131072:=by obtain⟨s,h1,h2,h3⟩:=h3.ok.secs;omega
 have hRn:R (au (tI .u8)) [] w4 k.fails.2.now [sK bn3 k.fails.2.now.length (k.fails.2.now.length+rn3.length)] :=
  R.ofBlk h4.hbn (by simp) h4.ok.nby (Nat.le_add_right _ _) (by have:az=140737488355328:=rfl;omega)
 refine jy fE (arr:=k.fails.2.dur.map (Value.int .u8)++rd3) h4.hbd (by show 0+k.fails.2.now.length*1<=_;rw[List.length_append,List.length_map,h4.ok.len];omega) hRn fun w5 ly hfl hb5 hk5=>⟨_,rfl,_,hk5,?_⟩
 have hly:=eW hfl
 rw[Nat.min_self,List.take_of_length_le (Nat.le_refl _)]at hly
 subst hly
 rw[List.take_zero,List.nil_append,Nat.zero_add,List.drop_append_of_le_length (by simp[h4.ok.len]),List.drop_eq_nil_of_le (by simp[h4.ok.len]),List.nil_append]at hb5
 have h5:=h4.setDur hk5 hb5 h4.ok.len.symm h4.ok.nby
 refine⟨⟨_,ak h5.hd 2 [_] rfl,rfl⟩,bE h5.hd,?_⟩
 rintro w6 rfl
 have hk6:KpL [d] w5 (bL w5 ⟨d,2,none⟩ [.slice none 0 0] 0):=cK w5 ⟨d,2,none⟩ _
 have hd6:=cL (off:=2) (l:=[.slice none 0 0]) h5.hd (by simp)
 have h6:=h5.set (k':={ k.fails.2 with dur:=k.fails.2.now,pend:=[] }) hk6 (by simp) hd6 rfl rfl (bI.nil' _ h5.pend.mlt) (h5.picks.weak (by
  intro b hb
  simp only[aj,List.nil_append,List.mem_cons]at hb ⊢
  rcases hb with rfl|rfl|rfl|hb
  ·simp
  ·simp
  ·simp
  ·simp[hb])) ⟨h5.ok.secs,h5.ok.len,h5.ok.dby,h5.ok.nby,h5.ok.fin,h5.ok.sin,fun p hp=>by simp at hp⟩
 have hk:k.sync=(0,{ k.fails.2 with dur:=k.fails.2.now,pend:=[] }):=by unfold Dk.sync;rw[if_neg (by simp[hup]),if_neg (by simp[hf])]
 rw[hk]
 refine⟨rfl,gp.of h6 ((hO2.trans hO3).trans ⟨((hk4.mono (by simp)).trans (hk5.mono (by simp))).trans (hk6.mono (by simp)),fun b hb=>?_⟩)⟩
 simp[aj]at hb
 left
 rcases hb with rfl|rfl|rfl<;>simp
theorem ft(hpl:k.pend.length<=1099511627775){i:Nat}{b:List Int}{ba:Option Addr}{bc:Nat}{Mb:List Nat}(hi:i*64+64<=k.now.length)(hb:R (au (tI .u8)) (F++Mb) w b [.slice ba 64 bc]):
 Calls Zz 32 #[pK d,iv i,.slice ba 64 bc] w fun e w'=>e=.returned (iv (k.write i b).1)/\gp M F w d (k.write i b).2 w':=by
 have h0:=h
 obtain⟨bd,bn,rd,rn,pe,pn,pc,pk,kn,kc,wr,sy,h,rfl⟩:=h
 have hN:k.now.length<=131072:=by obtain⟨s,h1,h2,h3⟩:=h.ok.secs;omega
 have hby:=hb.ints
 have hbl:b.length=64:=hb.sl_len'
 refine xz h.hd fun _=>⟨(gg h0).mono ?_⟩
 rintro e w1 ⟨rfl,hk1⟩
 refine⟨_,rfl,hk1,fun hc=>by simp at hc,fun _=>⟨fun hnn _=>⟨(f7 (h0.kp0 hk1)).mono ?_⟩,fun hc=>by omega⟩⟩
 rintro e w2 ⟨rfl,hk2⟩
 have hk12:=hk1.trans hk2
 refine⟨_,rfl,hk2,fun hc=>?_,fun _=>⟨fun hc=>by simp at hc,fun _=>⟨fun hdn _=>⟨?_,?_⟩,fun hup w3 hk3 hd3=>?_⟩⟩⟩
 ·exfalso
  obtain⟨s,h1,h2,h3⟩:=h.ok.secs
  unfold Dk.secs at hc
  omega
 ·unfold Dk.write;rw[if_pos hdn]
 ·unfold Dk.write;rw[if_pos hdn]
  exact⟨_,h0.kp0 hk12,ci.of0 hk12⟩
 have h2:=h.kp0 hk12
 have h3:=h2.set (k':=k) hk3 (by simp) hd3 rfl rfl h2.pend h2.picks h.ok
 have hO3:ci (d::bd::bn::aj pe) w (d::bd::bn::aj pe) w3:=⟨(hk12.mono (by simp)).trans (hk3.mono (by simp)),fun b hb=>.inl hb⟩
 have hb3:R (au (tI .u8)) (d::bd::bn::aj pe) w3 b [.slice ba 64 bc]:=(hO3.data hb).weak (by intro x hx;exact List.mem_append_left _ hx)
 obtain⟨ad,rfl⟩:∃ad,ba=some ad:=by
  obtain⟨ad,_,h,_⟩:=hb3.sl_get (i:=0) (by omega)
  exact⟨ad,h⟩
 obtain⟨l2,hf2,hl2,_⟩:=hb3.flat
 have hl2':=eW hf2
 subst hl2'
 have hld:=hl2 ad rfl (by rintro rfl;simp at hbl)
 have hlen:(b.map (Value.int .u8)).length=64:=by rw[List.length_map];exact hbl
 refine vr FF (Nat.le_refl _) ⟨_,rfl,[],KpL.refl _ _,⟨by simp⟩,fun _=>⟨⟨ak h3.hd 2 _ rfl,trivial⟩,fun _=>⟨_,hlen,hld,_,by simp[hbl],Ay hlen,fun _=>?_⟩⟩⟩
 refine xB FJ.el (by omega) (by omega) (by simp[hbl]) fun w5 hb5 hk5=>⟨_,_,_,rfl,_,hk5,⟨by simp⟩,fun _=>?_⟩
 have h5:=h3.kp0 hk5
 have hpn:=h5.pend.len
 have hRx:R Fe (aj pe++(d::bd::bn::M)) w5 ((i:Int),b) (iv (i:Int)::b.map (Value.int .u8)):=⟨rfl,ae.2 (by show _<=(i:Int)/\(i:Int)<=_;omega),hbl,hby⟩
 refine aD FJ h5.pend hb5 hRx (by omega) fun a' c' w6 hC6=>⟨_,_,_,rfl,_,hC6.kp,h5.pend.out (by simp),fun w7 hk7 hd7=>?_⟩
 have hin:∀x∈[d,bd,bn],x∉aj pe:=by
  intro x hx hm
  exact(h5.pend.blk_lt x hm).2 (by simp only[List.mem_cons,List.not_mem_nil,or_false]at hx ⊢;rcases hx with rfl|rfl|rfl<;>simp)
 have h6:fP M w7 d { k with pend:=k.pend++[((i:Int),b)] } bd bn rd rn a' (pn+1) c' pk kn kc (IntKind.i64.wrap (wr+1)) sy:=by
  have n1:bd∉[d]:=by simp;exact fun e=>h.d1 e.symm
  have n2:bn∉[d]:=by simp;exact fun e=>h.d2 e.symm
  refine⟨hd7,?_,?_,hC6.acc.kp hk7 (by simp),(h5.picks.step hC6.kp (by intro x hx;simp[hx]) (M':=d::bd::bn::(aj a'++M)) ?_).kp hk7 (by simp),h.d1,h.d2,h.d3,h.m1,h.m2,h.m3,⟨h.ok.secs,h.ok.len,h.ok.dby,h.ok.nby,h.ok.fin,h.ok.sin,?_⟩⟩
  ·rw[hk7.blk bd (Nat.lt_of_lt_of_le (ab h5.hbd) hC6.kp.size) n1,hC6.kp.blk bd (ab h5.hbd) (hin bd (by simp))];exact h5.hbd
  ·rw[hk7.blk bn (Nat.lt_of_lt_of_le (ab h5.hbn) hC6.kp.size) n2,hC6.kp.blk bn (ab h5.hbn) (hin bn (by simp))];exact h5.hbn
  ·intro x hx
   simp only[List.mem_cons,List.mem_append]at hx ⊢
   rcases hx with rfl|rfl|rfl|hx|hx
   ·simp
   ·simp
   ·simp
   ·rcases hC6.own x hx with hx|hx
    ·simp[hx]
    ·exact .inr hx
   ·simp[hx]
  ·intro p hp
   rcases List.mem_append.1 hp with hp|hp
   ·exact h.ok.pend p hp
   ·simp at hp
    subst hp
    exact⟨by simp,by show 64*(i:Int)+64<=(k.now.length:Int);omega⟩
 have hO7:ci (d::bd::bn::aj pe) w5 (d::bd::bn::aj a') w7:=by
  refine⟨(hC6.kp.mono (by simp_all)).trans (hk7.mono (by simp)),fun x hx=>?_⟩
  simp only[List.mem_cons]at hx ⊢
  rcases hx with rfl|rfl|rfl|hx
  ·simp
  ·simp
  ·simp
  ·rcases hC6.own x hx with hx|hx
   ·simp[hx]
   ·exact .inr hx
 have hO57:=((hO3.kp0 hk5).trans hO7)
 have hb7:R (au (tI .u8)) (d::bd::bn::aj a') w7 b [.slice (some ad) 64 bc]:=(hO57.data (N:=[]) (by simpa using hb.weak (M':=d::bd::bn::aj pe) (by intro x hx;exact List.mem_append_left _ hx))).weak (by simp)
 refine⟨(lX (i:=i) (n:=k.now.length) (show(i+1)*64<=k.now.length by omega) (Nat.le_add_right _ _) (show k.now.length<=_ by omega)).mono ?_⟩
 rintro e w8 ⟨rfl,hk8⟩
 rw[if_neg (show ¬k.now.length+rn.length=i*64 by omega),Option.map_some,al,Nat.zero_add,Nat.mul_one]
 refine⟨_,_,_,rfl,hk8,fun _=>?_⟩
 have h8:=h6.kp0 hk8
 refine jy fE (arr:=k.now.map (Value.int .u8)++rn) h8.hbn (by show i*64+64*1<=_;rw[List.length_append,List.length_map];omega) (hb7.kp0 hk8) fun w9 ly hfl hb9 hk9=>⟨_,rfl,_,hk9,⟨by simp[h.d2]⟩,fun _=>?_⟩
 have hly:=eW hfl
 rw[Nat.min_self,List.take_of_length_le (by omega)]at hly
 subst hly
 have hnew:(k.now.map (Value.int .u8)++rn).take (i*64)++(b.map (Value.int .u8)++(k.now.map (Value.int .u8)++rn).drop (i*64+(b.map (Value.int .u8)).length))=(dM k.now i b 0 64).map (Value.int .u8)++rn:=by
  rw[List.length_map,hbl,List.take_append_of_le_length (by rw[List.length_map];omega),List.drop_append_of_le_length (by rw[List.length_map];omega),<-List.append_assoc,<-List.append_assoc]
  congr 1
  unfold dM
  simp only[List.map_append,List.map_take,List.map_drop,Nat.add_zero,List.drop_zero,Nat.sub_zero,List.append_assoc]
  rw[List.take_of_length_le (l:=List.map _ b) (by simp[hbl])]
 rw[hnew]at hb9
 have hbyt:eB (dM k.now i b 0 64):=rL h.ok.nby hby
 have hlen9:(dM k.now i b 0 64).length=k.now.length:=lZ (by omega) (by omega) hbl (by omega)
 have h9:=h8.setNow hk9 hb9 hlen9 hbyt
 have hO9:ci (d::bd::bn::aj pe) w (d::bd::bn::aj a') w9:=(hO57.kp0 hk8).trans ⟨hk9.mono (by simp),fun x hx=>.inl hx⟩
 have hput:({ k with pend:=k.pend++[((i:Int),b)],now:=dM k.now i b 0 64 }:Dk)=k.put i b:=rfl
 refine⟨(pp (k:=k.put i b) ⟨_,_,_,_,_,_,_,_,_,_,_,_,h9,rfl⟩ (by show(k.pend++_).length<=_;simp;omega)).mono ?_⟩
 rintro e w10 ⟨rfl,hT⟩
 have hres:k.write i b=(if (k.put i b).fails.1=true then 17 else 0,(k.put i b).fails.2):=by unfold Dk.write;rw[if_neg (by simp[hup])]
 rw[hres]
 obtain⟨F10,hD10,hO10⟩:=hT
 exact⟨_,rfl,_,hO10.kp,fun hf=>⟨by rw[if_pos hf],F10,hD10,hO9.trans hO10⟩,fun hf=>⟨by rw[if_neg (by simp[hf])],F10,hD10,hO9.trans hO10⟩⟩
end
end Go.Vc
namespace Go.Vc
open Go Go.Proofs
def Dk.readE(k:Dk)(i:Int):Int:=if i<0∨(k.secs:Int)<=i then 3 else if k.down=true then 17 else 0
def Dk.crash(k:Dk)(ps:List Int):Int×Dk:=if ps.length>256 then (8,k) else if k.down=true then (17,k) else (0,k.fall ps)
def Dk.fuseAt(k:Dk)(i:Int)(ps:List Int):Int×Dk:=if i<0 then (3,k) else if ps.length>256 then (8,k) else if k.down=true then (17,k) else (0,{ k with fuse:=i,picks:=ps })
theorem B7:EZ Zz 33 5 (.int .u8 0) 1:=CG B9.el.und (by kernel_rfl) (z:=.int .u8 0) (by kernel_rfl) rfl
section
variable {M F:List Nat} {w:World} {d:Nat} {k:Dk} (h:bz M w d k F)
include h
theorem kw{N:List Nat}(hN:∀b∈N,b<w.heap.size)(i:Int):Calls Zz 35 #[pK d,iv i] w fun e w' =>
 ∃a n c,e=.returned (.tuple #[.slice a n c,iv (k.readE i)])/\KpL [] w w'/\(k.readE i=0->aZ (tI .u8) N w none (aF k.now i.toNat) a n c w'):=by
 have h0:=h
 obtain⟨bd,bn,rd,rn,pe,pn,pc,pk,kn,kc,wr,sy,h,rfl⟩:=h
 obtain⟨s,hs1,hs2,hs3⟩:=h.ok.secs
 have e0:k.secs=s:=by unfold Dk.secs;omega
 refine Be h.hd fun _=>⟨(gg h0).mono ?_⟩
 rintro e w1 ⟨rfl,hk1⟩
 refine⟨_,rfl,hk1,fun hc=>by simp at hc,fun _=>⟨fun hnn _=>⟨(f7 (h0.kp0 hk1)).mono ?_⟩,fun hc=>?_⟩⟩
 rotate_left
 ·have e1:k.readE i=3:=by unfold Dk.readE;rw[if_pos (.inl hc)]
  rw[e1]
  exact⟨_,_,_,rfl,hk1,fun hc=>by omega⟩
 rintro e w2 ⟨rfl,hk2⟩
 have hk12:=hk1.trans hk2
 refine⟨_,rfl,hk2,fun hc=>?_,fun hlt=>⟨fun hdn=>?_,fun hup=>?_⟩⟩
 ·have e1:k.readE i=3:=by unfold Dk.readE;rw[if_pos (.inr hc)]
  rw[e1]
  exact⟨_,_,_,rfl,hk12,fun hc=>by omega⟩
 ·have e1:k.readE i=17:=by unfold Dk.readE;rw[if_neg (by omega),if_pos hdn]
  rw[e1]
  exact⟨_,_,_,rfl,hk12,fun hc=>by omega⟩
 have e1:k.readE i=0:=by unfold Dk.readE;rw[if_neg (by omega),if_neg (by simp[hup])]
 obtain⟨j,rfl⟩:∃j:Nat,i=j:=⟨i.toNat,by omega⟩
 refine⟨(lX (n:=k.now.length) (i:=j) (by omega) (Nat.le_add_right _ _) (by omega)).mono ?_⟩
 rintro e w3 ⟨rfl,hk3⟩
 rw[if_neg (by omega),Option.map_some,al]
 have h3:=h.kp0 (hk12.trans hk3)
 have hmx:az=140737488355328:=rfl
 have hR0:R (au (tI .u8)) [] w3 k.now [sK bn k.now.length (k.now.length+rn.length)]:=R.ofBlk h3.hbn (by simp) h3.ok.nby (Nat.le_add_right _ _) (by omega)
 have hR:=hR0.sub (j*64) (j*64+64) (by omega) (by omega)
 rw[if_neg (by omega),Option.map_some,al,Nat.add_sub_cancel_left]at hR
 have hsz3:=(hk12.trans hk3).size
 refine⟨_,_,_,rfl,hk3,⟨(nA (M:=N) (fun b hb=>by have:=hN b hb;omega) (by omega) hR).mono ?_⟩⟩
 rintro e w4 ⟨a,n,c,rfl,hC⟩
 refine⟨_,_,_,rfl,hC.kp,?_⟩
 rw[e1]
 exact⟨_,_,_,rfl,(hk12.trans hk3).trans hC.kp,fun _=>⟨hC.acc,(hk12.trans hk3).trans hC.kp,fun b hb=>.inr (by have:=hC.own b hb;simp[aj]at this;omega)⟩⟩
theorem ze(hpl:k.pend.length<=1099511627776){ps:List Int}{ba:Option Addr}{bl bc:Nat}(hps:R (au (tI .u8)) F w ps [.slice ba bl bc]):
 Calls Zz 33 #[pK d,.slice ba bl bc] w fun e w'=>e=.returned (iv (k.crash ps).1)/\gp M F w d (k.crash ps).2 w':=by
 have h0:=h
 obtain⟨bd,bn,rd,rn,pe,pn,pc,pk,kn,kc,wr,sy,h,rfl⟩:=h
 have hl:=hps.sl_len'
 refine yH h.hd fun _=>⟨(gg h0).mono ?_⟩
 rintro e w1 ⟨rfl,hk1⟩
 refine⟨_,rfl,hk1,fun hc=>by simp at hc,fun _=>⟨fun hb=>?_,fun hs=>⟨fun hdn=>?_,fun hup _=>?_⟩⟩⟩
 ·have e1:k.crash ps=(8,k):=by unfold Dk.crash;rw[if_pos (by omega)]
  rw[e1]
  exact⟨rfl,_,h0.kp0 hk1,ci.of0 hk1⟩
 ·have e1:k.crash ps=(17,k):=by unfold Dk.crash;rw[if_neg (by omega),if_pos hdn]
  rw[e1]
  exact⟨rfl,_,h0.kp0 hk1,ci.of0 hk1⟩
 ·have e1:k.crash ps=(0,k.fall ps):=by unfold Dk.crash;rw[if_neg (by omega),if_neg (by simp[hup])]
  rw[e1]
  refine⟨(tp (h0.kp0 hk1) (hps.kp0 hk1) hpl).mono ?_⟩
  rintro e w2 ⟨rfl,F',hD,hO⟩
  exact⟨rfl,_,hO.kp,rfl,F',hD,(ci.of0 hk1).trans hO⟩
theorem Ep{Mb:List Nat}{i:Int}{ps:List Int}{ba:Option Addr}{bl bc:Nat}(hi:ar .i64 i)(hps:R (au (tI .u8)) Mb w ps [.slice ba bl bc]):
 Calls Zz 40 #[pK d,iv i,.slice ba bl bc] w fun e w'=>e=.returned (iv (k.fuseAt i ps).1)/\gp M F w d (k.fuseAt i ps).2 w':=by
 have h0:=h
 obtain⟨bd,bn,rd,rn,pe,pn,pc,pk,kn,kc,wr,sy,h,rfl⟩:=h
 have hl:=hps.sl_len'
 refine A0 h.hd fun _=>⟨(gg h0).mono ?_⟩
 rintro e w1 ⟨rfl,hk1⟩
 refine⟨_,rfl,hk1,fun hc=>by simp at hc,fun _=>⟨fun hn _=>?_,fun hnn=>⟨fun hb _=>?_,fun hs=>⟨fun hdn _=>?_,fun hup _=>?_⟩⟩⟩⟩
 ·have e1:k.fuseAt i ps=(3,k):=by unfold Dk.fuseAt;rw[if_pos hn]
  rw[e1]
  exact⟨rfl,_,h0.kp0 hk1,ci.of0 hk1⟩
 ·have e1:k.fuseAt i ps=(8,k):=by unfold Dk.fuseAt;rw[if_neg hnn,if_pos (by omega)]
  rw[e1]
  exact⟨rfl,_,h0.kp0 hk1,ci.of0 hk1⟩
 ·have e1:k.fuseAt i ps=(17,k):=by unfold Dk.fuseAt;rw[if_neg hnn,if_neg (by omega),if_pos hdn]
  rw[e1]
  exact⟨rfl,_,h0.kp0 hk1,ci.of0 hk1⟩
 ·have e1:k.fuseAt i ps=(0,{ k with fuse:=i,picks:=ps }):=by unfold Dk.fuseAt;rw[if_neg hnn,if_neg (by omega),if_neg (by simp[hup])]
  rw[e1]
  have h1:=h.kp0 hk1
  have hMlt:∀b∈d::bd::bn::(aj pe++M),b<w1.heap.size:=by
   intro b hb
   simp only[List.mem_cons,List.mem_append]at hb
   rcases hb with rfl|rfl|rfl|hb|hb
   ·exact ab h1.hd
   ·exact ab h1.hbd
   ·exact ab h1.hbn
   ·exact(h1.pend.blk_lt b hb).1
   ·exact h1.pend.mlt b (by simp[hb])
  refine⟨(nA hMlt (by omega) (hps.kp0 hk1)).mono ?_⟩
  rintro e w2 ⟨a,n,c,rfl,hC⟩
  have hn:n=ps.length:=hC.acc.len
  refine⟨_,_,_,rfl,hC.kp,fun w3 hk3 hd3=>⟨rfl,?_⟩⟩
  have h2:=h1.kp0 hC.kpn
  have hmx:az=140737488355328:=rfl
  refine gp.of (h2.set (k':={ k with fuse:=i,picks:=ps }) hk3 (by simp) hd3 rfl rfl h2.pend (hC.acc.done (by omega)) ⟨h.ok.secs,h.ok.len,h.ok.dby,h.ok.nby,hi,h.ok.sin,h.ok.pend⟩) ((ci.of0 (hk1.trans hC.kpn)).trans ⟨hk3.mono (by simp),fun b hb=>.inl hb⟩)
end
def cF(n:Nat):Dk:={ dur:=List.replicate (64*n) 0,now:=List.replicate (64*n) 0,pend:=[],fuse:=-1,picks:=[],down:=false,st:=0,n:=n }
theorem AK{n:Nat}(h1:64<=n)(h2:n<=2048):(cF n).ok:=by
 refine⟨⟨n,by simp[cF],by omega,h2,rfl⟩,by simp[cF],?_,?_,ae.2 (by simp[cF]),ae.2 (by simp[cF]),fun p hp=>by simp[cF]at hp⟩ <;>
 ·intro x hx
  rw[(List.mem_replicate.1 hx).2]
  exact bC.2 (by omega)
theorem np{M:List Nat}{w:World}(hM:∀b∈M,b<w.heap.size){n:Nat}(h1:64<=n)(h2:n<=2048):Calls Zz 19 #[iv n] w fun e w' =>
 ∃d F,e=.returned (.tuple #[pK d,iv 0])/\KpL [] w w'/\bz M w' d (cF n) F/\∀b∈F,w.heap.size<=b:=by
 have e64:((n:Int)*64).toNat=64*n:=by omega
 have key:∀(w1 w2 w3 w4:World) (b1 b2 d:Nat),KpL [] w w1->b1=w1.heap.size->w2.heap[b1]?=some (.cells (List.replicate (64*n) (Value.int .u8 0)).toArray 5 (0,0))->KpL [] w1 w2->
  b2=w2.heap.size->w3.heap[b2]?=some (.cells (List.replicate (64*n) (Value.int .u8 0)).toArray 5 (0,0))->KpL [] w2 w3->w3.heap.size<=d->KpL [] w3 w4->
  (∃bd bn:Nat,(bd=b1/\bn=b2∨bd=b2/\bn=b1)/\w4.heap[d]?=some (.cells #[sK bd (64*n) (64*n),sK bn (64*n) (64*n),.slice none 0 0,iv (-1),.slice none 0 0,.bool false,iv 0,iv 0,iv 0] 99 (0,0)))->
  ∃F,KpL [] w w4/\bz M w4 d (cF n) F/\∀b∈F,w.heap.size<=b:=by
  rintro w1 w2 w3 w4 b1 b2 d hk1 rfl hb1 hk2 rfl hb2 hk3 hd hk4 ⟨bd,bn,hb,hd4⟩
  have hb1':=(hk4.blk _ (Nat.lt_of_lt_of_le (ab hb1) hk3.size) (by simp)).trans ((hk3.blk _ (ab hb1) (by simp)).trans hb1)
  have hb2':=(hk4.blk _ (ab hb2) (by simp)).trans hb2
  have s1:=hk1.size
  have s2:=hk2.size
  have s3:=hk3.size
  have l1:=ab hb1
  have l2:=ab hb2
  have hlen:(cF n).now.length=64*n:=by simp[cF]
  have hmap:(cF n).now.map (Value.int .u8)++[]=List.replicate (64*n) (Value.int .u8 0):=by simp[cF]
  have hmap2:(cF n).dur.map (Value.int .u8)++[]=List.replicate (64*n) (Value.int .u8 0):=by simp[cF]
  have hMn:∀b∈M,b<w.heap.size:=hM
  have hall:∀x,(x=d∨x=bd∨x=bn)->w.heap.size<=x/\x<w4.heap.size:=by
   intro x hx
   have:=hk4.size
   have:=ab hd4
   rcases hx with rfl|rfl|rfl<;>rcases hb with ⟨rfl,rfl⟩|⟨rfl,rfl⟩<;>omega
  have hnm:∀x,(x=d∨x=bd∨x=bn)->x∉M:=fun x hx hm=>by
   have:=(hall x hx).1
   have:=hMn x hm
   omega
  refine⟨d::bd::bn::aj none,((hk1.trans hk2).trans hk3).trans hk4,⟨bd,bn,[],[],none,0,0,none,0,0,0,0,⟨?_,?_,?_,?_,R.sl_nil _ _ _ _ _,?_,?_,?_,hnm d (by simp),hnm bd (by simp),hnm bn (by simp),AK h1 h2⟩,rfl⟩,?_⟩
  ·rw[hlen];exact hd4
  ·rw[hmap2];rcases hb with ⟨rfl,rfl⟩|⟨rfl,rfl⟩
   ·exact hb1'
   ·exact hb2'
  ·rw[hmap];rcases hb with ⟨rfl,rfl⟩|⟨rfl,rfl⟩
   ·exact hb2'
   ·exact hb1'
  ·refine bI.nil' _ fun b hb=>?_
   simp only[List.mem_cons]at hb
   rcases hb with hb|hb|hb|hb
   ·exact(hall b (by simp[hb])).2
   ·exact(hall b (by simp[hb])).2
   ·exact(hall b (by simp[hb])).2
   ·have:=hMn b hb;have:=hk4.size;omega
  ·rcases hb with ⟨rfl,rfl⟩|⟨rfl,rfl⟩<;>omega
  ·rcases hb with ⟨rfl,rfl⟩|⟨rfl,rfl⟩<;>omega
  ·rcases hb with ⟨rfl,rfl⟩|⟨rfl,rfl⟩<;>omega
  ·intro b hb'
   simp[aj]at hb'
   exact(hall b hb').1
 refine uu ⟨fun _=>⟨fun hc=>by omega,fun _=>⟨ae.2 (by omega),fun w1 hk1=>?_,fun w1 hk1=>?_⟩⟩,fun hc=>by omega⟩
 ·refine dT B7 (by omega) (by omega) (by omega) fun w2 hb2 hk2=>⟨_,_,_,rfl,_,hk2,dT B7 (by omega) (by omega) (by omega) fun w3 hb3 hk3=>⟨_,_,_,rfl,_,hk3,fun d hd w4 hk4 hd4=>?_⟩⟩
  rw[e64]at hb2 hb3 hd4
  obtain⟨F,g1,g2,g3⟩:=key w1 w2 w3 w4 _ _ d hk1 rfl hb2 hk2 rfl hb3 hk3 hd hk4 ⟨_,_,.inl ⟨rfl,rfl⟩,hd4⟩
  exact⟨d,F,rfl,g1,g2,g3⟩
 ·refine dT B7 (by omega) (by omega) (by omega) fun w2 hb2 hk2=>⟨_,_,_,rfl,_,hk2,dT B7 (by omega) (by omega) (by omega) fun w3 hb3 hk3=>⟨_,_,_,rfl,_,hk3,fun d hd w4 hk4 hd4=>?_⟩⟩
  rw[e64]at hb2 hb3 hd4
  obtain⟨F,g1,g2,g3⟩:=key w1 w2 w3 w4 _ _ d hk1 rfl hb2 hk2 rfl hb3 hk3 hd hk4 ⟨_,_,.inr ⟨rfl,rfl⟩,hd4⟩
  exact⟨d,F,rfl,g1,g2,g3⟩
end Go.Vc
namespace Go.Vc
open Go Go.Proofs
structure gc (K:List Nat) (w:World) (lo:List Int) (a1:Option Addr) (n1 c1:Nat) (hi:List Int) (a2:Option Addr) (n2 c2:Nat):Prop where
 l:bI (tI .i64) (aj a2++K) w lo a1 n1 c1
 h:bI (tI .i64) (aj a1++K) w hi a2 n2 c2
section
variable {K:List Nat} {w w':World} {lo lo' hi hi':List Int} {a1 a2 a1' a2':Option Addr} {n1 c1 n2 c2 n1' c1' n2' c2':Nat}
theorem gc.kp{N:List Nat}(h:gc K w lo a1 n1 c1 hi a2 n2 c2)(k:KpL N w w')(hs:∀b∈N,b∈K):gc K w' lo a1 n1 c1 hi a2 n2 c2 :=
 ⟨h.l.kp k fun b hb=>List.mem_append_right _ (hs b hb),h.h.kp k fun b hb=>List.mem_append_right _ (hs b hb)⟩
theorem gc.kp0(h:gc K w lo a1 n1 c1 hi a2 n2 c2)(k:KpL [] w w'):gc K w' lo a1 n1 c1 hi a2 n2 c2:=h.kp k (by simp)
theorem gc.klt(h:gc K w lo a1 n1 c1 hi a2 n2 c2):∀b∈K,b<w.heap.size:=fun b hb=>h.l.mlt b (List.mem_append_right _ hb)
theorem gc.weak{K':List Nat}(h:gc K w lo a1 n1 c1 hi a2 n2 c2)(hs:∀b∈K',b∈K):gc K' w lo a1 n1 c1 hi a2 n2 c2:=by
 refine⟨h.l.weak fun b hb=>?_,h.h.weak fun b hb=>?_⟩ <;>
 ·rcases List.mem_append.1 hb with hb|hb
  ·exact List.mem_append_left _ hb
  ·exact List.mem_append_right _ (hs b hb)
theorem gc.app1(h:gc K w lo a1 n1 c1 hi a2 n2 c2)(hC:aZ (tI .i64) (aj a2++K) w a1 lo' a1' n1' c1' w'):gc K w' lo' a1' n1' c1' hi a2 n2 c2:=by
 refine⟨hC.acc,h.h.step hC.kp (fun b hb=>List.mem_append_left _ hb) fun b hb=>?_⟩
 have hsz:=hC.kp.size
 rcases List.mem_append.1 hb with hb|hb
 ·exact⟨(hC.own b hb).imp (fun h=>List.mem_append_left _ h) id,(hC.acc.blk_lt b hb).1⟩
 ·exact⟨.inl (List.mem_append_right _ hb),by have:=h.klt b hb;omega⟩
theorem gc.app2(h:gc K w lo a1 n1 c1 hi a2 n2 c2)(hC:aZ (tI .i64) (aj a1++K) w a2 hi' a2' n2' c2' w'):gc K w' lo a1 n1 c1 hi' a2' n2' c2':=by
 refine⟨h.l.step hC.kp (fun b hb=>List.mem_append_left _ hb) fun b hb=>?_,hC.acc⟩
 have hsz:=hC.kp.size
 rcases List.mem_append.1 hb with hb|hb
 ·exact⟨(hC.own b hb).imp (fun h=>List.mem_append_left _ h) id,(hC.acc.blk_lt b hb).1⟩
 ·exact⟨.inl (List.mem_append_right _ hb),by have:=h.klt b hb;omega⟩
end
theorem Bn{M M':List Nat}{w:World}{ds:List dI}{a:Option Addr}{n c:Nat}(hM:∀b∈M,b<w.heap.size)(hd:R (au bY) M' w ds [.slice a n c])(hz:(bX [] ds).1=0):
 Calls Zz 104 #[.slice a n c] w fun e w'=>∃a1 n1 c1 a2 n2 c2,e=.returned (.tuple #[.agg #[.slice a1 n1 c1,.slice a2 n2 c2],iv 0])/\KpL [] w w'/\(∀b∈aj a1++aj a2,w.heap.size<=b)/\
  gc M w' (ds.map (·.lo)) a1 n1 c1 (ds.map (·.hi)) a2 n2 c2:=by
 obtain⟨rfl,hn1,hn2⟩:=hd.sl_len
 have hmx:az=140737488355328:=rfl
 have hds:ds.length<=4:=by
  unfold bX at hz
  split at hz
  ·cases hz
  ·omega
 refine zF fun k1 hk1 w1 hw1 hn1'=>⟨(zp (hd.kp0 hw1)).mono ?_⟩
 rw[hz]
 rintro e w2 ⟨rfl,hw2⟩
 refine⟨_,rfl,hw2,fun hne=>absurd rfl hne,fun _ k2 hk2=>?_⟩
 have hk1l:=ab hn1'
 have hw02:=hw1.trans hw2
 have s2:=hw2.size
 have s02:=hw02.size
 refine⟨fun vs w'=>∃(i:Nat) (a1:Option Addr) (n1 c1:Nat) (a2:Option Addr) (n2 c2:Nat),vs=[iv (i:Int),.slice a1 n1 c1,.slice a2 n2 c2]/\i<=ds.length/\KpL [] w w'/\(∀b∈aj a1++aj a2,w.heap.size<=b)/\k2<w'.heap.size/\
  gc (k2::k1::M) w' ((ds.take i).map (·.lo)) a1 n1 c1 ((ds.take i).map (·.hi)) a2 n2 c2,fun vs _=>match vs with|.int _ i::_=>ds.length - i.toNat|_=>0,fun w4 hw4 hkn4=>?_,?_⟩
 ·have hKl:∀b∈k2::k1::M,b<w4.heap.size:=by
   have s4:=hw4.size
   intro b hb
   rcases List.mem_cons.1 hb with rfl|hb
   ·exact ab hkn4.1
   ·rcases List.mem_cons.1 hb with rfl|hb
    ·omega
    ·have:=hM b hb;omega
  exact⟨0,_,_,_,_,_,_,rfl,by omega,hw02.trans hw4,by simp[aj],ab hkn4.1,⟨bI.nil' _ (by simpa[aj]using hKl),bI.nil' _ (by simpa[aj]using hKl)⟩⟩
 rintro n2 b1 p1 q1 b2 p2 q2 w5 hkn5 ⟨i,_,_,_,_,_,_,hv,hi,hw5,hnew,hk2l,hA⟩
 simp only[List.cons.injEq,Value.int.injEq,Value.slice.injEq,true_and,and_true]at hv
 obtain⟨rfl,⟨rfl,rfl,rfl⟩,rfl,rfl,rfl⟩:=hv
 have hl1:=hA.l.len
 have hl2:=hA.h.len
 have hb1:∀b∈aj b1,b<w5.heap.size:=fun b hb=>(hA.l.blk_lt b hb).1
 have hb2:∀b∈aj b2,b<w5.heap.size:=fun b hb=>(hA.h.blk_lt b hb).1
 constructor
 ·intro hlt
  have g1:i<ds.length:=by omega
  simp only[List.length_map,List.length_take]at hl1 hl2
  obtain⟨ad,cs,rfl,hv1,hld1,_,_⟩:=(hd.kp0 hw5).sl_get g1
  obtain⟨rfl,hok1⟩:=hv1.dim
  have hRlo:∀M w',R (tI .i64) M w' ds[i].lo [iv ds[i].lo]:=fun _ _=>⟨rfl,hok1.2.1⟩
  have hRhi:∀M w',R (tI .i64) M w' ds[i].hi [iv ds[i].hi]:=fun _ _=>⟨rfl,hok1.2.2⟩
  have htk:ds.take (i+1)=ds.take i++[ds[i]]:=(List.take_append_getElem g1).symm
  have dec:ds.length - ((i:Int)+1).toNat<ds.length - (i:Int).toNat:=by omega
  have fin:∀{wa wb wc wd we:World} {b3 b4:Option Addr} {m3 r3 m4 r4:Nat},KpL [] w5 wa->aZ (tI .i64) (aj b2++(k2::k1::M)) wa b1 ((ds.take i).map (·.lo)++[ds[i].lo]) b3 m3 r3 wb->KpL [] wb wc->
   aZ (tI .i64) (aj b3++(k2::k1::M)) wc b2 ((ds.take i).map (·.hi)++[ds[i].hi]) b4 m4 r4 wd->KpL [k2,k2] wd we->
   ∃(i':Nat) (a1:Option Addr) (n1 c1:Nat) (a2:Option Addr) (n2 c2:Nat),[Value.int .i64 ((i:Int)+1),.slice b3 m3 r3,.slice b4 m4 r4]=[iv (i':Int),.slice a1 n1 c1,.slice a2 n2 c2]/\i'<=ds.length/\KpL [] w we/\(∀b∈aj a1++aj a2,w.heap.size<=b)/\k2<we.heap.size/\
    gc (k2::k1::M) we ((ds.take i').map (·.lo)) a1 n1 c1 ((ds.take i').map (·.hi)) a2 n2 c2:=by
   intro wa wb wc wd we b3 b4 m3 r3 m4 r4 ha hC1 hc hC2 hkk
   have s0:=hw5.size
   have sa:=ha.size
   have sb:=hC1.kp.size
   have sc:=hc.size
   have sd:=hC2.kp.size
   have se:=hkk.size
   have hA1:=((hA.kp0 ha).app1 hC1).kp0 hc
   have hA2:=(hA1.app2 hC2).kp hkk (by simp)
   have hnew3:∀b∈aj b3,w.heap.size<=b:=fun b hb=>by
    rcases hC1.own b hb with h|h
    ·exact hnew b (List.mem_append_left _ h)
    ·omega
   refine⟨i+1,_,_,_,_,_,_,rfl,by omega,?_,fun b hb=>?_,by omega,?_⟩
   ·have hk1:KpL [] w wb:=(hw5.trans ha).more hC1.kp fun x hx=>.inr (hnew x (List.mem_append_left _ hx))
    have hk2':KpL [] w wd:=(hk1.trans hc).more hC2.kp fun x hx=>.inr (hnew x (List.mem_append_right _ hx))
    exact hk2'.more hkk fun x hx=>by simp at hx;subst hx;exact .inr (by omega)
   ·rcases List.mem_append.1 hb with hb|hb
    ·exact hnew3 b hb
    ·rcases hC2.own b hb with h|h
     ·exact hnew b (List.mem_append_right _ h)
     ·omega
   ·rw[htk,List.map_append,List.map_append]
    exact hA2
  have nin:∀{x:Nat} {l:List Nat},(∀b∈l,b<w5.heap.size)->w5.heap.size<=x->af x l:=fun h1 h2=>⟨fun hm=>by have:=h1 _ hm;omega⟩
  refine⟨ad,rfl,by omega,hlt,fun _=>⟨_,_,_,hld1,fun k7 hk7=>⟨fun k8 hk8=>⟨fun w6 hw6 hkn6=>?_,fun k14 hk14 w11 hw11 hkn11=>?_⟩,fun k19 hk19 k20 hk20 w15 hw15 hkn15=>?_⟩⟩⟩
  ·have hA6:=hA.kp0 hw6
   refine aD zm hA6.l hkn6.1 (hRlo _ _) (by omega) fun b3 r3 w7 hC1=>⟨_,_,_,rfl,_,hC1.kp,⟨nin hb1 hk8,nin hb1 hk7,hA6.l.out (by simp),hA6.l.out (by simp)⟩,fun hkn7=>⟨⟨ak hkn7.2.1 2 [_] rfl,ak hkn7.2.2.1 1 [_] rfl,trivial⟩,fun k11 hk11 w8 hw8 hkn8=>?_⟩⟩
   have hA8:=(hA6.app1 hC1).kp0 hw8
   have hn3:∀{x},x∈[k8,k7]->af x (aj b2):=fun hx=>by
    simp at hx
    rcases hx with rfl|rfl
    ·exact nin hb2 hk8
    ·exact nin hb2 hk7
   have s6:=hw6.size
   have s7:=hC1.kp.size
   refine aD zm hA8.h hkn8.1 (hRhi _ _) (by omega) fun b4 r4 w9 hC2=>⟨_,_,_,rfl,_,hC2.kp,⟨nin hb2 (by omega),hn3 (by simp),hn3 (by simp),hA8.h.out (by simp),hA8.h.out (by simp)⟩,ae.2 (by omega),fun w10 hw10 _=>⟨fin hw6 hC1 hw8 hC2 hw10,dec⟩⟩
  ·have hA11:=hA.kp0 hw11
   refine aD zm hA11.l hkn11.2.1 (hRlo _ _) (by omega) fun b3 r3 w12 hC1=>⟨_,_,_,rfl,_,hC1.kp,⟨nin hb1 hk14,nin hb1 hk8,nin hb1 hk7,hA11.l.out (by simp),hA11.l.out (by simp)⟩,fun hkn12=>⟨⟨ak hkn12.2.2.2.1 1 [_] rfl,trivial⟩,fun _=>?_⟩⟩
   have hA12:=hA11.app1 hC1
   refine aD zm hA12.h hkn12.1 (hRhi _ _) (by omega) fun b4 r4 w13 hC2=>⟨_,_,_,rfl,_,hC2.kp,⟨nin hb2 hk14,nin hb2 hk8,nin hb2 hk7,hA12.h.out (by simp),hA12.h.out (by simp)⟩,ae.2 (by omega),fun w14 hw14 _=>⟨fin hw11 hC1 (KpL.refl _ _) hC2 hw14,dec⟩⟩
  ·have hA15:=hA.kp0 hw15
   refine aD zm hA15.l hkn15.1 (hRlo _ _) (by omega) fun b3 r3 w16 hC1=>⟨_,_,_,rfl,_,hC1.kp,⟨nin hb1 hk20,nin hb1 hk19,nin hb1 hk7,hA15.l.out (by simp),hA15.l.out (by simp)⟩,fun hkn16=>⟨⟨ak hkn16.2.2.2.1 1 [_] rfl,trivial⟩,fun _=>?_⟩⟩
   have hA16:=hA15.app1 hC1
   refine aD zm hA16.h hkn16.2.1 (hRhi _ _) (by omega) fun b4 r4 w17 hC2=>⟨_,_,_,rfl,_,hC2.kp,⟨nin hb2 hk20,nin hb2 hk19,nin hb2 hk7,hA16.h.out (by simp),hA16.h.out (by simp)⟩,ae.2 (by omega),fun w18 hw18 _=>⟨fin hw15 hC1 (KpL.refl _ _) hC2 hw18,dec⟩⟩
 ·intro hge w19 hw19 _
  have hie:i=ds.length:=by omega
  rw[hie,List.take_length]at hA
  exact⟨_,_,_,_,_,_,rfl,hw5.more hw19 (fun x hx=>by simp at hx;subst hx;exact .inr hk1),hnew,(hA.kp hw19 (by simp)).weak fun b hb=>by simp[hb]⟩
end Go.Vc
namespace Go.Vc
open Go Go.Proofs
theorem rC(x y:Int):eN x y = -1∨eN x y=0∨eN x y=1:=by unfold eN;split;simp;split<;>simp
theorem jg{x y:Int}:eN x y=0↔x=y:=by
 unfold eN
 split
 ·simp;omega
 ·split<;>simp<;>omega
theorem xI(x y:Int):eN y x = - eN x y:=by unfold eN;split<;>split<;>(try split)<;>omega
theorem nC{x y:Int}:eN x y<0↔x<y:=by
 unfold eN
 split
 ·simp[*]
 ·split<;>simp<;>omega
theorem iH:∀(x y:List Int),aY x y = -1∨aY x y=0∨aY x y=1
 |[],[]=>by simp[aY]
 |[],_::_=>by simp[aY]
 |_::_,[]=>by simp[aY]
 |x::r,y::s=>by
  rw[aY]
  split
  ·exact rC x y
  ·exact iH r s
theorem cz:∀(x y:List Int),aY y x = - aY x y
 |[],[]=>by simp[aY]
 |[],_::_=>by simp[aY]
 |_::_,[]=>by simp[aY]
 |x::r,y::s=>by
  rw[aY,aY,xI x y,cz r s]
  by_cases h:eN x y=0
  ·rw[h];simp
  ·rw[if_pos (by omega),if_pos h]
theorem bB:∀{x y:List Int},aY x y=0↔x=y
 |[],[]=>by simp[aY]
 |[],_::_=>by simp[aY]
 |_::_,[]=>by simp[aY]
 |x::r,y::s=>by
  rw[aY]
  by_cases h:eN x y=0
  ·rw[if_neg (by simp[h]),bB,jg.1 h];simp
  ·rw[if_pos h]
   have:x≠y:=fun e=>h (jg.2 e)
   simp[h,this]
theorem eF:∀{x y z:List Int},aY x y<=0->aY y z<=0->aY x z<=0
 |[],[],[],_,_=>by simp[aY]
 |[],[],_::_,_,_=>by simp[aY]
 |[],_::_,[],_,h=>by simp[aY]at h
 |[],_::_,_::_,_,_=>by simp[aY]
 |_::_,[],_,h,_=>by simp[aY]at h
 |_::_,_::_,[],_,h=>by simp[aY]at h
 |x::r,y::s,z::t,h1,h2=>by
  rw[aY]at h1 h2 ⊢
  by_cases e1:eN x y=0
  ·have:=jg.1 e1
   subst this
   rw[if_neg (by simp[e1])]at h1
   by_cases e2:eN x z=0
   ·rw[if_neg (by simp[e2])]at h2 ⊢
    exact eF h1 h2
   ·rw[if_pos e2]at h2 ⊢;exact h2
  ·rw[if_pos e1]at h1
   have hxy:x<y:=nC.1 (by omega)
   by_cases e2:eN y z=0
   ·have:=jg.1 e2
    subst this
    rw[if_pos e1];exact h1
   ·rw[if_pos e2]at h2
    have hyz:y<z:=nC.1 (by omega)
    have:eN x z<0:=nC.2 (by omega)
    rw[if_pos (by omega)];omega
structure RC where
 a1:Option Addr
 n1:Nat
 c1:Nat
 a2:Option Addr
 n2:Nat
 c2:Nat
 c:aR
def RC.cs(x:RC):List Value:=[.slice x.a1 x.n1 x.c1,.slice x.a2 x.n2 x.c2]
def qb(x y:RC):Prop:=aY x.c.at_ y.c.at_<0
def jQ(x y:RC):Prop:=aY x.c.at_ y.c.at_<=0
theorem eA{x y z:RC}(h1:jQ x y)(h2:jQ y z):jQ x z:=eF h1 h2
theorem jc{x y:RC}(h:qb x y):jQ x y:=by unfold qb jQ at *;omega
theorem cE{x y:RC}(h:¬qb y x):jQ x y:=by
 unfold qb jQ at *
 rw[cz y.c.at_ x.c.at_]
 omega
theorem pM{x y:RC}(h:jQ x y):¬qb y x:=by
 unfold qb jQ at *
 rw[cz x.c.at_ y.c.at_]
 omega
theorem wm{x y z:RC}(h1:qb x y)(h2:jQ y z):qb x z:=by
 apply Classical.byContradiction
 intro h
 exact pM (eA h2 (cE h)) h1
theorem wG{x y z:RC}(h1:jQ x y)(h2:qb y z):qb x z:=by
 apply Classical.byContradiction
 intro h
 exact pM (eA (cE h) h1) h2
abbrev PW(l:List RC):Prop:=l.Pairwise jQ
section
variable {α:Type}
theorem fZ{P R:List α}{n:Nat}(hn:n=P.length)(x y:α):(P++x::R).set n y=P++y::R:=by
 subst hn
 rw[List.set_append_right _ _ (Nat.le_refl _)]
 simp
theorem fU{P R:List α}{n:Nat}(hn:n=P.length)(x:α):(P++x::R)[n]?=some x:=by
 subst hn
 simp
theorem dG{l:List α}{n:Nat}(h:n<=l.length):∃A B,l=A++B/\A.length=n:=⟨l.take n,l.drop n,(List.take_append_drop n l).symm,by simp;omega⟩
theorem kO{l:List α}(h:0<l.length):∃A x,l=A++[x]:=by
 have hne:l≠[]:=by rintro rfl;simp at h
 exact⟨_,_,(List.dropLast_concat_getLast hne).symm⟩
theorem eL{l:List α}(h:0<l.length):∃x A,l=x::A:=by
 cases l with
 |nil=>simp at h
 |cons x A=>exact⟨x,A,rfl⟩
theorem bS{l:List α}(h:l.length=0):l=[]:=List.length_eq_zero_iff.1 h
end
theorem ia{l:List RC}(h:PW l){i j:Nat}{x y:RC}(hij:i<=j)(hx:l[i]?=some x)(hy:l[j]?=some y):jQ x y:=by
 obtain⟨hi,rfl⟩:=List.getElem?_eq_some_iff.1 hx
 obtain⟨hj,rfl⟩:=List.getElem?_eq_some_iff.1 hy
 rcases Nat.lt_or_ge i j with h1|h1
 ·exact List.pairwise_iff_getElem.1 h i j hi hj h1
 ·have:i=j:=by omega
  subst this
  unfold jQ
  rw[bB.2 rfl]
  exact Int.le_refl 0
theorem ic{A B:List RC}:PW (A++B)↔PW A/\PW B/\∀x∈A,∀y∈B,jQ x y:=List.pairwise_append
theorem ui{A B:List RC}{v:RC}(h:PW (A++B))(h1:∀x∈A,jQ x v)(h2:∀x∈B,jQ v x):PW (A++v::B):=by
 obtain⟨ha,hb,hab⟩:=ic.1 h
 refine ic.2 ⟨ha,List.pairwise_cons.2 ⟨h2,hb⟩,fun x hx y hy=>?_⟩
 rcases List.mem_cons.1 hy with rfl|hy
 ·exact h1 x hx
 ·exact hab x hx y hy
def tC(s lo hi:Nat)(xs:List RC):Prop:=∀i j x y,lo<=i->i<j->j<hi->i / s=j / s->xs[i]?=some x->xs[j]?=some y->jQ x y
theorem tC.seg{s lo hi a b:Nat}{P S Q:List RC}(h:tC s lo hi (P++(S++Q)))(hP:P.length=a)(hS:a+S.length=b)(hlo:lo<=a)(hhi:b<=hi)(hb:∀i,a<=i->i<b->i / s=a / s):PW S:=by
 refine List.pairwise_iff_getElem.2 fun i j hi' hj hij=>?_
 refine h (a+i) (a+j) _ _ (by omega) (by omega) (by omega) ?_ ?_ ?_
 ·rw[hb (a+i) (by omega) (by omega),hb (a+j) (by omega) (by omega)]
 ·rw[List.getElem?_append_right (by omega),show a+i - P.length=i from by omega,List.getElem?_append_left hi',List.getElem?_eq_getElem hi']
 ·rw[List.getElem?_append_right (by omega),show a+j - P.length=j from by omega,List.getElem?_append_left hj,List.getElem?_eq_getElem hj]
theorem tC.put{s lo a b:Nat}{P S S' Q:List RC}(h:tC s lo a (P++(S++Q)))(hP:P.length=a)(hl:S'.length=S.length)(hS:a+S.length=b)(hs:PW S')(hb:∀i j,i<a->a<=j->j<b->i / s≠j / s):tC s lo b (P++(S'++Q)):=by
 intro i j x y h0 hij hj he hx hy
 by_cases h1:j<a
 ·refine h i j x y h0 hij h1 he ?_ ?_
  ·rw[List.getElem?_append_left (by omega)]at hx ⊢;exact hx
  ·rw[List.getElem?_append_left (by omega)]at hy ⊢;exact hy
 ·by_cases h2:i<a
  ·exact absurd he (hb i j h2 (by omega) hj)
  ·rw[List.getElem?_append_right (by omega),List.getElem?_append_left (by omega)]at hx hy
   exact ia hs (by omega) hx hy
theorem tC.rest{s hi a b:Nat}{P S S' Q:List RC}(h:tC s a hi (P++(S++Q)))(hl:S'.length=S.length)(hP:P.length=a)(hS:a+S.length=b):tC s b hi (P++(S'++Q)):=by
 intro i j x y h0 hij hj he hx hy
 refine h i j x y (by omega) hij hj he ?_ ?_
 ·rw[List.getElem?_append_right (by omega),List.getElem?_append_right (by omega)]at hx ⊢
  rw[<-hl];exact hx
 ·rw[List.getElem?_append_right (by omega),List.getElem?_append_right (by omega)]at hy ⊢
  rw[<-hl];exact hy
theorem kH{s a i:Nat}(hs:0<s)(ha:a%s=0)(h1:a<=i)(h2:i<a+s):i / s=a / s:=by
 obtain⟨k,rfl⟩:=Nat.dvd_of_mod_eq_zero ha
 rw[Nat.mul_div_cancel_left k hs]
 exact Nat.div_eq_of_lt_le (by rw[Nat.mul_comm];exact h1) (by rw[Nat.add_mul,Nat.one_mul,Nat.mul_comm];exact h2)
theorem kZ{s a i j:Nat}(hs:0<s)(ha:a%s=0)(h1:i<a)(h2:a<=j):i / s≠j / s:=by
 obtain⟨k,rfl⟩:=Nat.dvd_of_mod_eq_zero ha
 have e1:i / s<k:=Nat.div_lt_of_lt_mul h1
 have e2:k<=j / s:=(Nat.le_div_iff_mul_le hs).2 (by rw[Nat.mul_comm];exact h2)
 omega
end Go.Vc
namespace Go.Vc
open Go Go.Proofs
open Go.Value Go.Ending Go.IntKind
set_option maxRecDepth 100000
section
variable{w:World}{R:Ending->World->Prop}
theorem kM{aa:Option Addr}{an ac:Nat}{x:Int}{y:Int}{f:Nat}{fi ca:Array Value}
 (h :
 ar i64 (x+1)/\∃(P1:LP)(P2:LM),P1 [iv (x+1)] w/\∀n1 w1,P1 [iv n1] w1->(n1<y->∃(P3:LP) (P4:LM),P3 [iv n1] w1/\∀n2 w2,P3 [iv n2] w2->(x<n2->Ad aa n2 an fun d1=>∃a1 k1 k2 a2 k3 k4,ao w2 (d1.add (n2.toNat*2)) [slice a1 k1 k2,slice a2 k3 k4]/\ar i64 (n2 - 1)/\Ad aa (n2 - 1) an fun d2=>∃a3 k5 k6 a4 k7 k8,ao w2 (d2.add ((n2 - 1).toNat*2)) [slice a3 k5 k6,slice a4 k7 k8]/\cR Zz f/\∀w3,KpL [] w2 w3->ag Zz f ((fi.toList++[agg #[slice a1 k1 k2,slice a2 k3 k4],agg #[slice a3 k5 k6,slice a4 k7 k8]]++ca.toList).toArray) w3 fun e1 w4 =>
 ∃n3,e1=returned (iv n3)/\∃l1,KpL l1 w3 w4/\(n3<0->ar i64 (n2 - 1)/\ar i64 (n2 - 1)/\Ad aa (n2 - 1) an fun d3=>∃a5 k9 k10 a6 k11 k12,ao w4 (d3.add ((n2 - 1).toNat*2)) [slice a5 k9 k10,slice a6 k11 k12]/\Ad aa n2 an fun d4=>∃a7 k13 k14 a8 k15 k16,ao w4 (d4.add (n2.toNat*2)) [slice a7 k13 k14,slice a8 k15 k16]/\Ad aa n2 an fun d5=>∀w5,KpL [] w4 w5->(∃l2,ao w5 (d5.add (n2.toNat*2)) l2/\l2.length=2)/\aq w5 (d5.add (n2.toNat*2)) 2/\∀w6,w6=bL w5 (d5.add (n2.toNat*2)) [slice a5 k9 k10,slice a6 k11 k12] 0->Ad aa (n2 - 1) an fun d6=>(∃l3,ao w6 (d6.add ((n2 - 1).toNat*2)) l3/\l3.length=2)/\aq w6 (d6.add ((n2 - 1).toNat*2)) 2/\∀w7,w7=bL w6 (d6.add ((n2 - 1).toNat*2)) [slice a7 k13 k14,slice a8 k15 k16] 0->ar i64 (n2 - 1)/\P3 [iv (n2 - 1)] w7/\P4 [iv (n2 - 1)] w7<P4 [iv n2] w2)/\(¬n3<0->ar i64 (n1+1)/\P1 [iv (n1+1)] w4/\P2 [iv (n1+1)] w4<P2 [iv n1] w1))/\(¬x<n2->ar i64 (n1+1)/\∀w8,KpL [] w2 w8->P1 [iv (n1+1)] w8/\P2 [iv (n1+1)] w8<P2 [iv n1] w1))/\(¬n1<y->R (returned (tuple #[])) w1)):Calls Zz 210 #[slice aa an ac,iv x,iv y,func (Fn.func f) fi ca] w R :=
 fz { loops:=[⟨4,[9],rg 18 35,[0]⟩,⟨1,[8],[9]++rg 12 41,[0]⟩] } [av (.slice aa an ac),av (iv x),av (iv y),av (.func (.func f) fi ca)] Tryz.func210 h
theorem qV{aa:Option Addr}{an ac:Nat}{x:Int}{y:Int}{z:Int}{f:Nat}{fi ca:Array Value}
 (h :
 ∃(P1:LP)(P2:LM),P1 [iv 0] w/\∀n1 w1,P1 [iv n1] w1->(n1<z->ar i64 (x+n1)/\ar i64 (y+n1)/\ar i64 (y+n1)/\Ad aa (y+n1) an fun d1=>∃a1 k1 k2 a2 k3 k4,ao w1 (d1.add ((y+n1).toNat*2)) [slice a1 k1 k2,slice a2 k3 k4]/\ar i64 (x+n1)/\Ad aa (x+n1) an fun d2=>∃a3 k5 k6 a4 k7 k8,ao w1 (d2.add ((x+n1).toNat*2)) [slice a3 k5 k6,slice a4 k7 k8]/\Ad aa (x+n1) an fun d3=>∀w2,KpL [] w1 w2->(∃l1,ao w2 (d3.add ((x+n1).toNat*2)) l1/\l1.length=2)/\aq w2 (d3.add ((x+n1).toNat*2)) 2/\∀w3,w3=bL w2 (d3.add ((x+n1).toNat*2)) [slice a1 k1 k2,slice a2 k3 k4] 0->Ad aa (y+n1) an fun d4=>(∃l2,ao w3 (d4.add ((y+n1).toNat*2)) l2/\l2.length=2)/\aq w3 (d4.add ((y+n1).toNat*2)) 2/\∀w4,w4=bL w3 (d4.add ((y+n1).toNat*2)) [slice a3 k5 k6,slice a4 k7 k8] 0->ar i64 (n1+1)/\P1 [iv (n1+1)] w4/\P2 [iv (n1+1)] w4<P2 [iv n1] w1)/\(¬n1<z->R (returned (tuple #[])) w1)):Calls Zz 221 #[slice aa an ac,iv x,iv y,iv z,func (Fn.func f) fi ca] w R :=
 fz { loops:=[⟨1,[10],rg 11 27,[0]⟩] } [av (.slice aa an ac),av (iv x),av (iv y),av (iv z),av (.func (.func f) fi ca)] Tryz.func221 h
theorem wU{aa:Option Addr}{an ac:Nat}{x:Int}{y:Int}{z:Int}{f:Nat}{fi ca:Array Value}
 (h :
 ar i64 (y - x)/\ar i64 (z - y)/\∃(P1:LP)(P2:LM),P1 [iv (y - x),iv (z - y)] w/\∀n1 n2 w1,P1 [iv n1,iv n2] w1->(n1≠n2->(n2<n1->ar i64 (y - n1)/\ag Zz 221 #[slice aa an ac,iv (y - n1),iv y,iv n2,func (Fn.func f) fi ca] w1 fun e1 w2 =>
 e1=returned (tuple #[])/\∃l1,KpL l1 w1 w2/\ar i64 (n1 - n2)/\P1 [iv (n1 - n2),iv n2] w2/\P2 [iv (n1 - n2),iv n2] w2<P2 [iv n1,iv n2] w1)/\(¬n2<n1->ar i64 (y - n1)/\ar i64 (y+n2)/\ar i64 (y+n2 - n1)/\ag Zz 221 #[slice aa an ac,iv (y - n1),iv (y+n2 - n1),iv n1,func (Fn.func f) fi ca] w1 fun e2 w3 =>
 e2=returned (tuple #[])/\∃l2,KpL l2 w1 w3/\ar i64 (n2 - n1)/\P1 [iv n1,iv (n2 - n1)] w3/\P2 [iv n1,iv (n2 - n1)] w3<P2 [iv n1,iv n2] w1))/\(¬n1≠n2->ar i64 (y - n1)/\ag Zz 221 #[slice aa an ac,iv (y - n1),iv y,iv n1,func (Fn.func f) fi ca] w1 fun e3 w4 =>
 e3=returned (tuple #[])/\∃l3,KpL l3 w1 w4/\R (returned (tuple #[])) w4)):Calls Zz 216 #[slice aa an ac,iv x,iv y,iv z,func (Fn.func f) fi ca] w R :=
 fz { loops:=[⟨2,[10,11],rg 18 32,[]⟩],muts:=[221] } [av (.slice aa an ac),av (iv x),av (iv y),av (iv z),av (.func (.func f) fi ca)] Tryz.func216 h
theorem rt{aa:Option Addr}{an ac:Nat}{x:Int}{y:Int}{z:Int}{f:Nat}{fi ca:Array Value}
 (h :
 ar i64 (y - x)/\(y - x=1->∃(P1:LP)(P2:LM),P1 [iv y,iv z] w/\∀n1 n2 w1,P1 [iv n1,iv n2] w1->(n1<n2->ar i64 (n1+n2)/\∃d1,aa=some d1/\(0:Int)<=i64.wrap ((u64.wrap (n1+n2)).fdiv (↑((2:Nat) ^ (1:Nat)):Int))/\i64.wrap ((u64.wrap (n1+n2)).fdiv (↑((2:Nat) ^ (1:Nat)):Int))<(↑an:Int)/\∃a1 k1 k2 a2 k3 k4,ao w1 (d1.add ((i64.wrap ((u64.wrap (n1+n2)).fdiv (↑((2:Nat) ^ (1:Nat)):Int))).toNat*(2:Nat))) [slice a1 k1 k2,slice a2 k3 k4]/\Ad aa x an fun d2=>∃a3 k5 k6 a4 k7 k8,ao w1 (d2.add (x.toNat*2)) [slice a3 k5 k6,slice a4 k7 k8]/\cR Zz f/\∀w2,KpL [] w1 w2->ag Zz f ((fi.toList++[agg #[slice a1 k1 k2,slice a2 k3 k4],agg #[slice a3 k5 k6,slice a4 k7 k8]]++ca.toList).toArray) w2 fun e1 w3 =>
 ∃n3,e1=returned (iv n3)/\∃l1,KpL l1 w2 w3/\(n3<0->ar i64 (i64.wrap ((u64.wrap (n1+n2)).fdiv (↑((2:Nat) ^ (1:Nat)):Int))+(1:Int))/\P1 [iv (i64.wrap ((u64.wrap (n1+n2)).fdiv (↑((2:Nat) ^ (1:Nat)):Int))+(1:Int)),iv n2] w3/\P2 [iv (i64.wrap ((u64.wrap (n1+n2)).fdiv (↑((2:Nat) ^ (1:Nat)):Int))+(1:Int)),iv n2] w3<P2 [iv n1,iv n2] w1)/\(¬n3<0->P1 [iv n1,iv (i64.wrap ((u64.wrap (n1+n2)).fdiv (↑((2:Nat) ^ (1:Nat)):Int)))] w3/\P2 [iv n1,iv (i64.wrap ((u64.wrap (n1+n2)).fdiv (↑((2:Nat) ^ (1:Nat)):Int)))] w3<P2 [iv n1,iv n2] w1))/\(¬n1<n2->∃(P3:LP) (P4:LM),P3 [iv x] w1/\∀n4 w4,P3 [iv n4] w4->ar i64 (n1 - 1)/\(n4<n1 - 1->ar i64 (n4+1)/\ar i64 (n4+1)/\Ad aa (n4+1) an fun d3=>∃a5 k9 k10 a6 k11 k12,ao w4 (d3.add ((n4+1).toNat*2)) [slice a5 k9 k10,slice a6 k11 k12]/\Ad aa n4 an fun d4=>∃a7 k13 k14 a8 k15 k16,ao w4 (d4.add (n4.toNat*2)) [slice a7 k13 k14,slice a8 k15 k16]/\Ad aa n4 an fun d5=>∀w5,KpL [] w4 w5->(∃l2,ao w5 (d5.add (n4.toNat*2)) l2/\l2.length=2)/\aq w5 (d5.add (n4.toNat*2)) 2/\∀w6,w6=bL w5 (d5.add (n4.toNat*2)) [slice a5 k9 k10,slice a6 k11 k12] 0->Ad aa (n4+1) an fun d6=>(∃l3,ao w6 (d6.add ((n4+1).toNat*2)) l3/\l3.length=2)/\aq w6 (d6.add ((n4+1).toNat*2)) 2/\∀w7,w7=bL w6 (d6.add ((n4+1).toNat*2)) [slice a7 k13 k14,slice a8 k15 k16] 0->ar i64 (n4+1)/\P3 [iv (n4+1)] w7/\P4 [iv (n4+1)] w7<P4 [iv n4] w4)/\(¬n4<n1 - 1->R (returned (tuple #[])) w4)))/\(¬y - x=1->ar i64 (z - y)/\(z - y=1->∃(P5:LP) (P6:LM),P5 [iv x,iv y] w/\∀n5 n6 w8,P5 [iv n5,iv n6] w8->(n5<n6->ar i64 (n5+n6)/\Ad aa y an fun d7=>∃a9 k17 k18 a10 k19 k20,ao w8 (d7.add (y.toNat*2)) [slice a9 k17 k18,slice a10 k19 k20]/\∃d8,aa=some d8/\(0:Int)<=i64.wrap ((u64.wrap (n5+n6)).fdiv (↑((2:Nat) ^ (1:Nat)):Int))/\i64.wrap ((u64.wrap (n5+n6)).fdiv (↑((2:Nat) ^ (1:Nat)):Int))<(↑an:Int)/\∃a11 k21 k22 a12 k23 k24,ao w8 (d8.add ((i64.wrap ((u64.wrap (n5+n6)).fdiv (↑((2:Nat) ^ (1:Nat)):Int))).toNat*(2:Nat))) [slice a11 k21 k22,slice a12 k23 k24]/\cR Zz f/\∀w9,KpL [] w8 w9->ag Zz f ((fi.toList++[agg #[slice a9 k17 k18,slice a10 k19 k20],agg #[slice a11 k21 k22,slice a12 k23 k24]]++ca.toList).toArray) w9 fun e2 w10 =>
 ∃n7,e2=returned (iv n7)/\∃l4,KpL l4 w9 w10/\(¬n7<0->ar i64 (i64.wrap ((u64.wrap (n5+n6)).fdiv (↑((2:Nat) ^ (1:Nat)):Int))+(1:Int))/\P5 [iv (i64.wrap ((u64.wrap (n5+n6)).fdiv (↑((2:Nat) ^ (1:Nat)):Int))+(1:Int)),iv n6] w10/\P6 [iv (i64.wrap ((u64.wrap (n5+n6)).fdiv (↑((2:Nat) ^ (1:Nat)):Int))+(1:Int)),iv n6] w10<P6 [iv n5,iv n6] w8)/\(¬¬n7<0->P5 [iv n5,iv (i64.wrap ((u64.wrap (n5+n6)).fdiv (↑((2:Nat) ^ (1:Nat)):Int)))] w10/\P6 [iv n5,iv (i64.wrap ((u64.wrap (n5+n6)).fdiv (↑((2:Nat) ^ (1:Nat)):Int)))] w10<P6 [iv n5,iv n6] w8))/\(¬n5<n6->∃(P7:LP) (P8:LM),P7 [iv y] w8/\∀n8 w11,P7 [iv n8] w11->(n5<n8->ar i64 (n8 - 1)/\ar i64 (n8 - 1)/\Ad aa (n8 - 1) an fun d9=>∃a13 k25 k26 a14 k27 k28,ao w11 (d9.add ((n8 - 1).toNat*2)) [slice a13 k25 k26,slice a14 k27 k28]/\Ad aa n8 an fun d10=>∃a15 k29 k30 a16 k31 k32,ao w11 (d10.add (n8.toNat*2)) [slice a15 k29 k30,slice a16 k31 k32]/\Ad aa n8 an fun d11=>∀w12,KpL [] w11 w12->(∃l5,ao w12 (d11.add (n8.toNat*2)) l5/\l5.length=2)/\aq w12 (d11.add (n8.toNat*2)) 2/\∀w13,w13=bL w12 (d11.add (n8.toNat*2)) [slice a13 k25 k26,slice a14 k27 k28] 0->Ad aa (n8 - 1) an fun d12=>(∃l6,ao w13 (d12.add ((n8 - 1).toNat*2)) l6/\l6.length=2)/\aq w13 (d12.add ((n8 - 1).toNat*2)) 2/\∀w14,w14=bL w13 (d12.add ((n8 - 1).toNat*2)) [slice a15 k29 k30,slice a16 k31 k32] 0->ar i64 (n8 - 1)/\P7 [iv (n8 - 1)] w14/\P8 [iv (n8 - 1)] w14<P8 [iv n8] w11)/\(¬n5<n8->R (returned (tuple #[])) w11)))/\(¬z - y=1->ar i64 (x+z)/\ar i64 (i64.wrap ((u64.wrap (x+z)).fdiv (↑((2:Nat) ^ (1:Nat)):Int))+y)/\∃(P9:LP),((i64.wrap ((u64.wrap (x+z)).fdiv (↑((2:Nat) ^ (1:Nat)):Int))<y->ar i64 (i64.wrap ((u64.wrap (x+z)).fdiv (↑((2:Nat) ^ (1:Nat)):Int))+y - z)/\P9 [iv (i64.wrap ((u64.wrap (x+z)).fdiv (↑((2:Nat) ^ (1:Nat)):Int))+y - z),iv (i64.wrap ((u64.wrap (x+z)).fdiv (↑((2:Nat) ^ (1:Nat)):Int)))] w)/\(¬i64.wrap ((u64.wrap (x+z)).fdiv (↑((2:Nat) ^ (1:Nat)):Int))<y->P9 [iv x,iv y] w))/\∀n9 n10 w15,P9 [iv n9,iv n10] w15->ar i64 (i64.wrap ((u64.wrap (x+z)).fdiv (↑((2:Nat) ^ (1:Nat)):Int))+y - (1:Int))/\∃(P10:LP),(∃(P11:LP) (P12:LM),P11 [iv n9,iv n10] w15/\∀n11 n12 w16,P11 [iv n11,iv n12] w16->(n11<n12->ar i64 (n11+n12)/\ar i64 (i64.wrap ((u64.wrap (x+z)).fdiv (↑((2:Nat) ^ (1:Nat)):Int))+y - (1:Int) - i64.wrap ((u64.wrap (n11+n12)).fdiv (↑((2:Nat) ^ (1:Nat)):Int)))/\∃d13,aa=some d13/\(0:Int)<=i64.wrap ((u64.wrap (x+z)).fdiv (↑((2:Nat) ^ (1:Nat)):Int))+y - (1:Int) - i64.wrap ((u64.wrap (n11+n12)).fdiv (↑((2:Nat) ^ (1:Nat)):Int))/\i64.wrap ((u64.wrap (x+z)).fdiv (↑((2:Nat) ^ (1:Nat)):Int))+y - (1:Int) - i64.wrap ((u64.wrap (n11+n12)).fdiv (↑((2:Nat) ^ (1:Nat)):Int))<(↑an:Int)/\∃a17 k33 k34 a18 k35 k36,ao w16 (d13.add ((i64.wrap ((u64.wrap (x+z)).fdiv (↑((2:Nat) ^ (1:Nat)):Int))+y - (1:Int) - i64.wrap ((u64.wrap (n11+n12)).fdiv (↑((2:Nat) ^ (1:Nat)):Int))).toNat*(2:Nat))) [slice a17 k33 k34,slice a18 k35 k36]/\∃d14,aa=some d14/\(0:Int)<=i64.wrap ((u64.wrap (n11+n12)).fdiv (↑((2:Nat) ^ (1:Nat)):Int))/\i64.wrap ((u64.wrap (n11+n12)).fdiv (↑((2:Nat) ^ (1:Nat)):Int))<(↑an:Int)/\∃a19 k37 k38 a20 k39 k40,ao w16 (d14.add ((i64.wrap ((u64.wrap (n11+n12)).fdiv (↑((2:Nat) ^ (1:Nat)):Int))).toNat*(2:Nat))) [slice a19 k37 k38,slice a20 k39 k40]/\cR Zz f/\∀w17,KpL [] w16 w17->ag Zz f ((fi.toList++[agg #[slice a17 k33 k34,slice a18 k35 k36],agg #[slice a19 k37 k38,slice a20 k39 k40]]++ca.toList).toArray) w17 fun e3 w18 =>
 ∃n13,e3=returned (iv n13)/\∃l7,KpL l7 w17 w18/\(¬n13<0->ar i64 (i64.wrap ((u64.wrap (n11+n12)).fdiv (↑((2:Nat) ^ (1:Nat)):Int))+(1:Int))/\P11 [iv (i64.wrap ((u64.wrap (n11+n12)).fdiv (↑((2:Nat) ^ (1:Nat)):Int))+(1:Int)),iv n12] w18/\P12 [iv (i64.wrap ((u64.wrap (n11+n12)).fdiv (↑((2:Nat) ^ (1:Nat)):Int))+(1:Int)),iv n12] w18<P12 [iv n11,iv n12] w16)/\(¬¬n13<0->P11 [iv n11,iv (i64.wrap ((u64.wrap (n11+n12)).fdiv (↑((2:Nat) ^ (1:Nat)):Int)))] w18/\P12 [iv n11,iv (i64.wrap ((u64.wrap (n11+n12)).fdiv (↑((2:Nat) ^ (1:Nat)):Int)))] w18<P12 [iv n11,iv n12] w16))/\(¬n11<n12->P10 [iv n11,iv n12] w16))/\∀n14 n15 w19,P10 [iv n14,iv n15] w19->ar i64 (i64.wrap ((u64.wrap (x+z)).fdiv (↑((2:Nat) ^ (1:Nat)):Int))+y - n14)/\∃(P13:LP),((n14<y->(y<i64.wrap ((u64.wrap (x+z)).fdiv (↑((2:Nat) ^ (1:Nat)):Int))+y - n14->ag Zz 216 #[slice aa an ac,iv n14,iv y,iv (i64.wrap ((u64.wrap (x+z)).fdiv (↑((2:Nat) ^ (1:Nat)):Int))+y - n14),func (Fn.func f) fi ca] w19 fun e4 w20 =>
 e4=returned (tuple #[])/\∃l8,KpL l8 w19 w20/\P13 [] w20)/\(¬y<i64.wrap ((u64.wrap (x+z)).fdiv (↑((2:Nat) ^ (1:Nat)):Int))+y - n14->P13 [] w19))/\(¬n14<y->P13 [] w19))/\∀w21,P13 [] w21->∃(P14:LP),((x<n14->(n14<i64.wrap ((u64.wrap (x+z)).fdiv (↑((2:Nat) ^ (1:Nat)):Int))->ag Zz 211 #[slice aa an ac,iv x,iv n14,iv (i64.wrap ((u64.wrap (x+z)).fdiv (↑((2:Nat) ^ (1:Nat)):Int))),func (Fn.func f) fi ca] w21 fun e5 w22 =>
 e5=returned (tuple #[])/\∃l9,KpL l9 w21 w22/\P14 [] w22)/\(¬n14<i64.wrap ((u64.wrap (x+z)).fdiv (↑((2:Nat) ^ (1:Nat)):Int))->P14 [] w21))/\(¬x<n14->P14 [] w21))/\∀w23,P14 [] w23->(i64.wrap ((u64.wrap (x+z)).fdiv (↑((2:Nat) ^ (1:Nat)):Int))<i64.wrap ((u64.wrap (x+z)).fdiv (↑((2:Nat) ^ (1:Nat)):Int))+y - n14->(i64.wrap ((u64.wrap (x+z)).fdiv (↑((2:Nat) ^ (1:Nat)):Int))+y - n14<z->ag Zz 211 #[slice aa an ac,iv (i64.wrap ((u64.wrap (x+z)).fdiv (↑((2:Nat) ^ (1:Nat)):Int))),iv (i64.wrap ((u64.wrap (x+z)).fdiv (↑((2:Nat) ^ (1:Nat)):Int))+y - n14),iv z,func (Fn.func f) fi ca] w23 fun e6 w24 =>
 e6=returned (tuple #[])/\∃l10,KpL l10 w23 w24/\R (returned (tuple #[])) w24)/\(¬i64.wrap ((u64.wrap (x+z)).fdiv (↑((2:Nat) ^ (1:Nat)):Int))+y - n14<z->R (returned (tuple #[])) w23))/\(¬i64.wrap ((u64.wrap (x+z)).fdiv (↑((2:Nat) ^ (1:Nat)):Int))<i64.wrap ((u64.wrap (x+z)).fdiv (↑((2:Nat) ^ (1:Nat)):Int))+y - n14->R (returned (tuple #[])) w23)))):Calls Zz 211 #[slice aa an ac,iv x,iv y,iv z,func (Fn.func f) fi ca] w R :=
 fz { loops:=[⟨33,[20,21],[23]++rg 149 26,[]⟩,⟨21,[17],rg 108 21,[0]⟩,⟨15,[14,15],[16]++rg 83 24,[]⟩,⟨9,[13],rg 55 22,[0]⟩,⟨3,[10,11],[12]++rg 31 23,[]⟩],cuts:=[⟨43,[],rg 192 14,[]⟩,⟨41,[],rg 178 14,[]⟩,⟨38,[20,21],[23]++rg 149 26,[]⟩,⟨32,[20,21],rg 138 9,[]⟩],muts:=[216,211] } [av (.slice aa an ac),av (iv x),av (iv y),av (iv z),av (.func (.func f) fi ca)] Tryz.func211 h
theorem pg{aa:Option Addr}{an ac:Nat}{x:Int}{f:Nat}{fi ca:Array Value}
 (h :
 ∃(P1:LP)(P2:LM),P1 [iv 0,iv 20] w/\∀n1 n2 w1,P1 [iv n1,iv n2] w1->(n2<=x->ag Zz 210 #[slice aa an ac,iv n1,iv n2,func (Fn.func f) fi ca] w1 fun e1 w2 =>
 e1=returned (tuple #[])/\∃l1,KpL l1 w1 w2/\ar i64 (n2+20)/\P1 [iv n2,iv (n2+20)] w2/\P2 [iv n2,iv (n2+20)] w2<P2 [iv n1,iv n2] w1)/\(¬n2<=x->ag Zz 210 #[slice aa an ac,iv n1,iv x,func (Fn.func f) fi ca] w1 fun e2 w3 =>
 e2=returned (tuple #[])/\∃l2,KpL l2 w1 w3/\∃(P3:LP) (P4:LM),P3 [iv 20] w3/\∀n3 w4,P3 [iv n3] w4->(n3<x->ar i64 (2*n3)/\∃(P5:LP) (P6:LM),P5 [iv 0,iv (2*n3)] w4/\∀n4 n5 w5,P5 [iv n4,iv n5] w5->(n5<=x->ar i64 (n4+n3)/\ag Zz 211 #[slice aa an ac,iv n4,iv (n4+n3),iv n5,func (Fn.func f) fi ca] w5 fun e3 w6 =>
 e3=returned (tuple #[])/\∃l3,KpL l3 w5 w6/\ar i64 (2*n3)/\ar i64 (n5+2*n3)/\P5 [iv n5,iv (n5+2*n3)] w6/\P6 [iv n5,iv (n5+2*n3)] w6<P6 [iv n4,iv n5] w5)/\(¬n5<=x->ar i64 (n4+n3)/\(n4+n3<x->ag Zz 211 #[slice aa an ac,iv n4,iv (n4+n3),iv x,func (Fn.func f) fi ca] w5 fun e4 w7 =>
 e4=returned (tuple #[])/\∃l4,KpL l4 w5 w7/\ar i64 (n3*2)/\P3 [iv (n3*2)] w7/\P4 [iv (n3*2)] w7<P4 [iv n3] w4)/\(¬n4+n3<x->ar i64 (n3*2)/\P3 [iv (n3*2)] w5/\P4 [iv (n3*2)] w5<P4 [iv n3] w4)))/\(¬n3<x->R (returned (tuple #[])) w4))):Calls Zz 198 #[slice aa an ac,iv x,func (Fn.func f) fi ca] w R :=
 fz { loops:=[⟨9,[7,8],rg 33 16,[]⟩,⟨7,[6],[7,8,9]++rg 28 35,[]⟩,⟨2,[7,8],rg 11 12,[]⟩],muts:=[210,211] } [av (.slice aa an ac),av (iv x),av (.func (.func f) fi ca)] Tryz.func198 h
theorem jI{aa:Option Addr}{an ac:Nat}{f:Nat}{fi ca:Array Value}
 (h :
 ag Zz 198 #[slice aa an ac,iv (↑an:Int),func (Fn.func f) fi ca] w fun e1 w1 =>
 e1=returned (tuple #[])/\∃l1,KpL l1 w w1/\R (returned (tuple #[])) w1):Calls Zz 167 #[slice aa an ac,func (Fn.func f) fi ca] w R :=
 fz { muts:=[198] } [av (.slice aa an ac),av (.func (.func f) fi ca)] Tryz.func167 h
theorem yJ{aa:Option Addr}{an ac:Nat}{f:Nat}{fi ca:Array Value}
 (h :
 ∀k1,w.heap.size<=k1->∀w1,KpL [] w w1->Hb w1 k1 #[func (Fn.func f) fi ca] 223->ag Zz 167 (#[slice aa an ac,func (Fn.func 168) #[] #[pK k1]]) w1 fun e1 w2 =>
 e1=returned (tuple #[])/\∃l1,KpL l1 w1 w2/\af k1 l1/\(Hb w2 k1 #[func (Fn.func f) fi ca] 223->R (returned (tuple #[])) w2)):Calls Zz 136 #[slice aa an ac,func (Fn.func f) fi ca] w R :=
 fz { muts:=[167],all:=true } [av (.slice aa an ac),av (.func (.func f) fi ca)] Tryz.func136 h
theorem Bg{aa:Option Addr}{an ac:Nat}{ba:Option Addr}{bn bc:Nat}{da:Option Addr}{dn dc:Nat}
 (h :
 ∀k1,w.heap.size<=k1->∀w1,KpL [] w w1->Hb w1 k1 #[slice none 0 0,slice none 0 0,slice none 0 0] 58->ag Zz 164 #[slice aa an ac] w1 fun e1 w2 =>
 ∃a1 k2 k3,e1=returned (slice a1 k2 k3)/\KpL [] w1 w2/\(Hb w2 k1 #[slice none 0 0,slice none 0 0,slice none 0 0] 58->ag Zz 165 #[slice ba bn bc] w2 fun e2 w3 =>
 ∃a2 k4 k5,e2=returned (slice a2 k4 k5)/\KpL [] w2 w3/\∀k6,w3.heap.size<=k6->∃(P1:LP)(P2:LM),(∀w4,KpL [] w3 w4->Hb w4 k6 #[slice a1 k2 k3,slice a2 k4 k5,slice none 0 0] 58/\Hb w4 k1 #[slice none 0 0,slice none 0 0,slice none 0 0] 58->P1 [iv 0,slice a1 k2 k3,slice a2 k4 k5,slice none 0 0] w4)/\∀n1 a3 k7 k8 a4 k9 k10 a5 k11 k12 w5,Hb w5 k6 #[slice a3 k7 k8,slice a4 k9 k10,slice a5 k11 k12] 58->P1 [iv n1,slice a3 k7 k8,slice a4 k9 k10,slice a5 k11 k12] w5->(n1<(↑dn:Int)->Ad da n1 dn fun d1=>(Hb w5 k6 #[slice a3 k7 k8,slice a4 k9 k10,slice a5 k11 k12] 58/\Hb w5 k1 #[slice none 0 0,slice none 0 0,slice none 0 0] 58->∃a6 k13 k14 a7 k15 k16,ao w5 (d1.add (n1.toNat*2)) [slice a6 k13 k14,slice a7 k15 k16]/\∀k17,w5.heap.size<=k17->∀w6,KpL [] w5 w6->Hb w6 k17 #[slice a6 k13 k14,slice a7 k15 k16] 147/\Hb w6 k6 #[slice a3 k7 k8,slice a4 k9 k10,slice a5 k11 k12] 58/\Hb w6 k1 #[slice none 0 0,slice none 0 0,slice none 0 0] 58->ag Zz 166 (#[agg #[slice a6 k13 k14,slice a7 k15 k16]]) w6 fun e3 w7 =>
 ∃a8 k18 k19 a9 k20 k21,e3=returned (agg #[slice a8 k18 k19,slice a9 k20 k21])/\KpL [] w6 w7/\∀k22,w7.heap.size<=k22->∀w8,KpL [] w7 w8->Hb w8 k22 #[slice a8 k18 k19,slice a9 k20 k21] 147/\Hb w8 k17 #[slice a6 k13 k14,slice a7 k15 k16] 147/\Hb w8 k6 #[slice a3 k7 k8,slice a4 k9 k10,slice a5 k11 k12] 58/\Hb w8 k1 #[slice none 0 0,slice none 0 0,slice none 0 0] 58->Ev Zz (Builtin.append_ #[56,56] 56 #[slice a5 k11 k12,sK k22 1 1]) w8 fun y1 w9 =>
 ∃a10 k23 k24,y1=slice a10 k23 k24/\∃l1,KpL l1 w8 w9/\(af k22 l1/\af k17 l1/\af k6 l1/\af k1 l1)/\ar i64 (n1+1)/\∀w10,KpL [k6] w9 w10->Hb w10 k22 #[slice a8 k18 k19,slice a9 k20 k21] 147/\Hb w10 k17 #[slice a6 k13 k14,slice a7 k15 k16] 147/\Hb w10 k6 #[slice a3 k7 k8,slice a4 k9 k10,slice a10 k23 k24] 58/\Hb w10 k1 #[slice none 0 0,slice none 0 0,slice none 0 0] 58->P1 [iv (n1+1),slice a3 k7 k8,slice a4 k9 k10,slice a10 k23 k24] w10/\P2 [iv (n1+1),slice a3 k7 k8,slice a4 k9 k10,slice a10 k23 k24] w10<P2 [iv n1,slice a3 k7 k8,slice a4 k9 k10,slice a5 k11 k12] w5))/\(¬n1<(↑dn:Int)->∀w11,KpL [k1] w5 w11->Hb w11 k6 #[slice a3 k7 k8,slice a4 k9 k10,slice a5 k11 k12] 58/\Hb w11 k1 #[slice a3 k7 k8,slice a4 k9 k10,slice a5 k11 k12] 58->R (returned (agg #[slice a3 k7 k8,slice a4 k9 k10,slice a5 k11 k12])) w11))):Calls Zz 135 #[slice aa an ac,slice ba bn bc,slice da dn dc] w R :=
 fz { loops:=[⟨3,[17],[9]++rg 18 11,[7]⟩],all:=true } [av (.slice aa an ac),av (.slice ba bn bc),av (.slice da dn dc)] Tryz.func135 h
theorem C7{aa:Option Addr}{an ac:Nat}{ba:Option Addr}{bn bc:Nat}{da:Option Addr}{dn dc:Nat}
 (h :
 ∀k1,w.heap.size<=k1->∀w1,KpL [] w w1->Hb w1 k1 #[slice none 0 0,slice none 0 0,slice none 0 0] 58->ag Zz 133 #[slice aa an ac,slice ba bn bc] w1 fun e1 w2 =>
 ∃n1,e1=returned (iv n1)/\KpL [] w1 w2/\(n1≠0->∀w3,KpL [k1] w2 w3->Hb w3 k1 #[slice none 0 0,slice none 0 0,slice none 0 0] 58->R (returned (tuple #[agg #[slice none 0 0,slice none 0 0,slice none 0 0],iv n1])) w3)/\(¬n1≠0->((4096:Int)<(↑dn:Int)->∀w4,KpL [k1] w2 w4->Hb w4 k1 #[slice none 0 0,slice none 0 0,slice none 0 0] 58->R (returned (tuple #[agg #[slice none 0 0,slice none 0 0,slice none 0 0],iv 9])) w4)/\(¬(4096:Int)<(↑dn:Int)->∃(P1:LP)(P2:LM),(Hb w2 k1 #[slice none 0 0,slice none 0 0,slice none 0 0] 58->P1 [iv 0,slice none 0 0,slice none 0 0,slice none 0 0] w2)/\∀n2 a1 k2 k3 a2 k4 k5 a3 k6 k7 w5,Hb w5 k1 #[slice a1 k2 k3,slice a2 k4 k5,slice a3 k6 k7] 58->P1 [iv n2,slice a1 k2 k3,slice a2 k4 k5,slice a3 k6 k7] w5->(n2<(↑dn:Int)->Ad da n2 dn fun d1=>(Hb w5 k1 #[slice a1 k2 k3,slice a2 k4 k5,slice a3 k6 k7] 58->∃a4 k8 k9 a5 k10 k11,ao w5 (d1.add (n2.toNat*2)) [slice a4 k8 k9,slice a5 k10 k11]/\∀k12,w5.heap.size<=k12->∀w6,KpL [] w5 w6->Hb w6 k12 #[slice a4 k8 k9,slice a5 k10 k11] 147/\Hb w6 k1 #[slice a1 k2 k3,slice a2 k4 k5,slice a3 k6 k7] 58->ag Zz 134 (#[slice aa an ac,slice ba bn bc,agg #[slice a4 k8 k9,slice a5 k10 k11]]) w6 fun e2 w7 =>
 ∃n3,e2=returned (iv n3)/\KpL [] w6 w7/\(n3≠0->∀w8,KpL [k1] w7 w8->Hb w8 k12 #[slice a4 k8 k9,slice a5 k10 k11] 147/\Hb w8 k1 #[slice none 0 0,slice none 0 0,slice none 0 0] 58->R (returned (tuple #[agg #[slice none 0 0,slice none 0 0,slice none 0 0],iv n3])) w8)/\(¬n3≠0->ar i64 (n2+1)/\(Hb w7 k12 #[slice a4 k8 k9,slice a5 k10 k11] 147/\Hb w7 k1 #[slice a1 k2 k3,slice a2 k4 k5,slice a3 k6 k7] 58->P1 [iv (n2+1),slice a1 k2 k3,slice a2 k4 k5,slice a3 k6 k7] w7/\P2 [iv (n2+1),slice a1 k2 k3,slice a2 k4 k5,slice a3 k6 k7] w7<P2 [iv n2,slice a1 k2 k3,slice a2 k4 k5,slice a3 k6 k7] w5))))/\(¬n2<(↑dn:Int)->Hb w5 k1 #[slice a1 k2 k3,slice a2 k4 k5,slice a3 k6 k7] 58->ag Zz 135 #[slice aa an ac,slice ba bn bc,slice da dn dc] w5 fun e3 w9 =>
 ∃a6 k13 k14 a7 k15 k16 a8 k17 k18,e3=returned (agg #[slice a6 k13 k14,slice a7 k15 k16,slice a8 k17 k18])/\KpL [] w5 w9/\∀k19,w9.heap.size<=k19->∀w10,KpL [] w9 w10->Hb w10 k19 #[slice a6 k13 k14,slice a7 k15 k16,slice a8 k17 k18] 58/\Hb w10 k1 #[slice a1 k2 k3,slice a2 k4 k5,slice a3 k6 k7] 58->ag Zz 136 (#[slice a8 k17 k18,func (Fn.func 137) #[] #[]]) w10 fun e4 w11 =>
 e4=returned (tuple #[])/\∃l1,KpL l1 w10 w11/\(af k19 l1/\af k1 l1)/\∃(P3:LP) (P4:LM),(Hb w11 k19 #[slice a6 k13 k14,slice a7 k15 k16,slice a8 k17 k18] 58/\Hb w11 k1 #[slice a1 k2 k3,slice a2 k4 k5,slice a3 k6 k7] 58->P3 [iv 1,slice a1 k2 k3,slice a2 k4 k5,slice a3 k6 k7] w11)/\∀n4 a9 k20 k21 a10 k22 k23 a11 k24 k25 w12,Hb w12 k1 #[slice a9 k20 k21,slice a10 k22 k23,slice a11 k24 k25] 58->P3 [iv n4,slice a9 k20 k21,slice a10 k22 k23,slice a11 k24 k25] w12->(n4<(↑k17:Int)->ar i64 (n4 - 1)/\Ad a8 (n4 - 1) k17 fun d2=>∃a12 k26 k27,ao w12 ((d2.add ((n4 - 1).toNat*2)).add 0) [slice a12 k26 k27]/\Ad a8 n4 k17 fun d3=>∃a13 k28 k29,ao w12 ((d3.add (n4.toNat*2)).add 0) [slice a13 k28 k29]/\∀w13,KpL [] w12 w13->Hb w13 k1 #[slice a9 k20 k21,slice a10 k22 k23,slice a11 k24 k25] 58/\Hb w13 k19 #[slice a6 k13 k14,slice a7 k15 k16,slice a8 k17 k18] 58->ag Zz 138 #[slice a12 k26 k27,slice a13 k28 k29] w13 fun e5 w14 =>
 ∃n5,e5=returned (iv n5)/\KpL [] w13 w14/\(n5=0->∀w15,KpL [k1] w14 w15->Hb w15 k1 #[slice none 0 0,slice none 0 0,slice none 0 0] 58/\Hb w15 k19 #[slice a6 k13 k14,slice a7 k15 k16,slice a8 k17 k18] 58->R (returned (tuple #[agg #[slice none 0 0,slice none 0 0,slice none 0 0],iv 5])) w15)/\(¬n5=0->ar i64 (n4+1)/\(Hb w14 k1 #[slice a9 k20 k21,slice a10 k22 k23,slice a11 k24 k25] 58/\Hb w14 k19 #[slice a6 k13 k14,slice a7 k15 k16,slice a8 k17 k18] 58->P3 [iv (n4+1),slice a9 k20 k21,slice a10 k22 k23,slice a11 k24 k25] w14/\P4 [iv (n4+1),slice a9 k20 k21,slice a10 k22 k23,slice a11 k24 k25] w14<P4 [iv n4,slice a9 k20 k21,slice a10 k22 k23,slice a11 k24 k25] w12)))/\(¬n4<(↑k17:Int)->∀w16,KpL [k1] w12 w16->Hb w16 k1 #[slice a6 k13 k14,slice a7 k15 k16,slice a8 k17 k18] 58/\Hb w16 k19 #[slice a6 k13 k14,slice a7 k15 k16,slice a8 k17 k18] 58->R (returned (tuple #[agg #[slice a6 k13 k14,slice a7 k15 k16,slice a8 k17 k18],iv 0])) w16))))):Calls Zz 69 #[slice aa an ac,slice ba bn bc,slice da dn dc] w R :=
 fz { loops:=[⟨16,[13],[7]++rg 47 23,[6]⟩,⟨7,[27],[7,10,11]++rg 28 12,[6]⟩],muts:=[136],all:=true } [av (.slice aa an ac),av (.slice ba bn bc),av (.slice da dn dc)] Tryz.func69 h
theorem AG{cxa:Option Addr}{cxn cxc:Nat}{cya:Option Addr}{cyn cyc:Nat}
 (h :
 ∀k1,w.heap.size<=k1->∀w1,KpL [] w w1->R (returned (slice cxa cxn cxc)) w1):Calls Zz 137 #[agg #[slice cxa cxn cxc,slice cya cyn cyc]] w R :=
 fz {} [.a (.agg [.v (.slice cxa cxn cxc),.v (.slice cya cyn cyc)])] Tryz.func137 h
theorem Ag{k:Nat}{xxa:Option Addr}{xxn xxc:Nat}{xya:Option Addr}{xyn xyc:Nat}{yxa:Option Addr}{yxn yxc:Nat}{yya:Option Addr}{yyn yyc:Nat}
 (hk:Hb w k #[func (Fn.func 137) #[] #[]] 223)
 (h :
 ∀k1,w.heap.size<=k1->∀k2,w.heap.size<=k2->cR Zz 137/\∀w1,KpL [] w w1->Hb w1 k2 #[slice yxa yxn yxc,slice yya yyn yyc] 147/\Hb w1 k1 #[slice xxa xxn xxc,slice xya xyn xyc] 147/\Hb w1 k #[func (Fn.func 137) #[] #[]] 223->ag Zz 137 (#[agg #[slice xxa xxn xxc,slice xya xyn xyc]]) w1 fun e1 w2 =>
 ∃a1 k3 k4,e1=returned (slice a1 k3 k4)/\∃l1,KpL l1 w1 w2/\(af k2 l1/\af k1 l1/\af k l1)/\(Hb w2 k2 #[slice yxa yxn yxc,slice yya yyn yyc] 147/\Hb w2 k1 #[slice xxa xxn xxc,slice xya xyn xyc] 147/\Hb w2 k #[func (Fn.func 137) #[] #[]] 223->(ao w2 (Addr.mk k2 0 none) [slice yxa yxn yxc,slice yya yyn yyc]/\ao w2 (Addr.mk k 0 none) [func (Fn.func 137) #[] #[]]/\True)/\cR Zz 137/\(Hb w2 k2 #[slice yxa yxn yxc,slice yya yyn yyc] 147/\Hb w2 k1 #[slice xxa xxn xxc,slice xya xyn xyc] 147/\Hb w2 k #[func (Fn.func 137) #[] #[]] 223->ag Zz 137 (#[agg #[slice yxa yxn yxc,slice yya yyn yyc]]) w2 fun e2 w3 =>
 ∃a2 k5 k6,e2=returned (slice a2 k5 k6)/\∃l2,KpL l2 w2 w3/\(af k2 l2/\af k1 l2/\af k l2)/\(Hb w3 k2 #[slice yxa yxn yxc,slice yya yyn yyc] 147/\Hb w3 k1 #[slice xxa xxn xxc,slice xya xyn xyc] 147/\Hb w3 k #[func (Fn.func 137) #[] #[]] 223->ag Zz 138 #[slice a1 k3 k4,slice a2 k5 k6] w3 fun e3 w4 =>
 ∃n1,e3=returned (iv n1)/\KpL [] w3 w4/\(Hb w4 k2 #[slice yxa yxn yxc,slice yya yyn yyc] 147/\Hb w4 k1 #[slice xxa xxn xxc,slice xya xyn xyc] 147/\Hb w4 k #[func (Fn.func 137) #[] #[]] 223->R (returned (iv n1)) w4))))):Calls Zz 168 #[agg #[slice xxa xxn xxc,slice xya xyn xyc],agg #[slice yxa yxn yxc,slice yya yyn yyc],pK k] w R :=
 dD (an:={ all:=true }) (args:=[.a (.agg [.v (.slice xxa xxn xxc),.v (.slice xya xyn xyc)]),.a (.agg [.v (.slice yxa yxn yxc),.v (.slice yya yyn yyc)]),.a (.c (.loc 0 0))]) (rho:=[k]) (hp:=[(0,223,[.v (.func (.func 137) #[] #[])])]) aS Tryz.func168 (by kernel_rfl) rfl rfl hk (by simp) (by simpa using ab hk) rfl (by simp) h
end
end Go.Vc
namespace Go.Vc
open Go Go.Proofs
structure aN (w:World) (b:Nat) (xs:List RC):Prop where
 blk:∃rest T,w.heap[b]?=some (.cells (xs.flatMap RC.cs++rest).toArray T (0,0))
 el:∀x∈xs,R aC [b] w x.c x.cs
theorem jk(xs:List RC):(xs.flatMap RC.cs).length=2*xs.length:=by
 induction xs with
 |nil=>rfl
 |cons x r ih=>rw[List.flatMap_cons,List.length_append,ih,List.length_cons];show 2+_=_;omega
section
variable {w w':World} {b:Nat} {xs:List RC}
theorem aN.kp0(h:aN w b xs)(k:KpL [] w w'):aN w' b xs:=by
 obtain⟨rest,T,hb⟩:=h.blk
 exact⟨⟨rest,T,(k.blk b (ab hb) (by simp)).trans hb⟩,fun x hx=>(h.el x hx).kp0 k⟩
theorem aN.get(h:aN w b xs){i:Nat}{x:RC}(hx:xs[i]?=some x):ao w ((⟨b,0,none⟩:Addr).add (i*2)) x.cs/\R aC [b] w x.c x.cs:=by
 obtain⟨rest,T,hb⟩:=h.blk
 refine⟨?_,h.el x (List.mem_of_getElem? hx)⟩
 rw[al,Nat.zero_add]
 refine ak hb _ _ ?_
 obtain⟨hi,rfl⟩:=List.getElem?_eq_some_iff.1 hx
 have hl:(xs[i].cs).length=2:=rfl
 rw[hl]
 have e1:xs=xs.take i++xs[i]::xs.drop (i+1):=by rw[<-List.drop_eq_getElem_cons hi,List.take_append_drop]
 have e2:xs.flatMap RC.cs++rest=(xs.take i).flatMap RC.cs++(xs[i].cs++((xs.drop (i+1)).flatMap RC.cs++rest)):=by
  conv=>lhs;rw[e1]
  rw[List.flatMap_append,List.flatMap_cons]
  simp
 rw[e2,List.drop_append_of_le_length (by rw[jk];simp;omega),List.drop_eq_nil_of_le (by rw[jk];simp;omega),List.nil_append]
 rfl
theorem aN.set(h:aN w b xs){i:Nat}{x:RC}(hi:i<xs.length)(hx:R aC [b] w x.c x.cs):
 (∃l,ao w ((⟨b,0,none⟩:Addr).add (i*2)) l/\l.length=2)/\aq w ((⟨b,0,none⟩:Addr).add (i*2)) 2/\
 aN (bL w ((⟨b,0,none⟩:Addr).add (i*2)) x.cs 0) b (xs.set i x)/\KpL [b] w (bL w ((⟨b,0,none⟩:Addr).add (i*2)) x.cs 0):=by
 have hg:=h.get (List.getElem?_eq_getElem hi)
 obtain⟨rest,T,hb⟩:=h.blk
 rw[al,Nat.zero_add]at hg ⊢
 have hk:KpL [b] w (bL w ⟨b,i*2,none⟩ x.cs 0):=cK w ⟨b,i*2,none⟩ _
 refine⟨⟨_,hg.1,rfl⟩,bE hb,⟨⟨rest,T,?_⟩,fun y hy=>?_⟩,hk⟩
 ·rw[cL hb (by rw[List.length_append,jk];show i*2+2<=_;omega)]
  congr 2
  have e1:xs=xs.take i++xs[i]::xs.drop (i+1):=by rw[<-List.drop_eq_getElem_cons hi,List.take_append_drop]
  have e2:xs.flatMap RC.cs++rest=(xs.take i).flatMap RC.cs++(xs[i].cs++((xs.drop (i+1)).flatMap RC.cs++rest)):=by
   conv=>lhs;rw[e1]
   rw[List.flatMap_append,List.flatMap_cons]
   simp
  have e3:(xs.set i x).flatMap RC.cs++rest=(xs.take i).flatMap RC.cs++(x.cs++((xs.drop (i+1)).flatMap RC.cs++rest)):=by
   rw[List.set_eq_take_append_cons_drop,if_pos hi,List.flatMap_append,List.flatMap_cons]
   simp
  rw[e2,e3]
  have hl:((xs.take i).flatMap RC.cs).length=i*2:=by rw[jk];simp;omega
  rw[List.take_append_of_le_length (by omega),List.take_of_length_le (by omega),List.drop_append,List.drop_eq_nil_of_le (by omega),List.nil_append]
  have e4:i*2+x.cs.length - ((xs.take i).flatMap RC.cs).length=2:=by rw[hl];show i*2+2 - _=2;omega
  rw[e4]
  rfl
 ·rcases List.mem_or_eq_of_mem_set hy with hy|rfl
  ·exact(h.el y hy).kp hk (by simp)
  ·exact hx.kp hk (by simp)
end
structure rU (w0:World) (b:Nat) (f:FuncId) (fi ca:Array Value):Prop where
 ok:cR Zz f
 calls:∀(x y:RC) (w:World),KpL [b] w0 w->R aC [b] w x.c x.cs->R aC [b] w y.c y.cs->
  Calls Zz f (fi.toList++[Value.agg #[.slice x.a1 x.n1 x.c1,.slice x.a2 x.n2 x.c2],Value.agg #[.slice y.a1 y.n1 y.c1,.slice y.a2 y.n2 y.c2]]++ca.toList).toArray w (aA (iv (aY x.c.at_ y.c.at_)) w)
theorem rU.at{w0 w:World}{b:Nat}{f:FuncId}{fi ca:Array Value}(h:rU w0 b f fi ca)(k:KpL [b] w0 w):rU w b f fi ca:=⟨h.ok,fun x y w' k'=>h.calls x y w' (k.trans k')⟩
def Dy(w:World)(b:Nat)(p:List RC->Prop)(e:Ending)(w':World):Prop:=e=.returned (.tuple #[])/\KpL [b] w w'/\∃ys,aN w' b ys/\p ys
theorem gN{w:World}{b:Nat}{P A B C Q:List RC}{f:FuncId}{fi ca:Array Value}{n c:Nat}(h:aN w b (P++(A++(B++(C++Q)))))(hn:n=(P++(A++(B++(C++Q)))).length)(hl:A.length=C.length)(hb:n<=1000000){x y z:Int}
 (hx:x=P.length)(hy:y=x+A.length+B.length)(hz:z=A.length):
 Calls Zz 221 #[sK b n c,iv x,iv y,iv z,.func (.func f) fi ca] w (Dy w b fun ys=>ys=P++(C++(B++(A++Q)))):=by
 simp only[List.length_append]at hn
 refine qV ⟨fun vs w'=>∃(A1 A2 C1 C2:List RC),vs=[iv (A1.length:Int)]/\A=A1++A2/\C=C1++C2/\C1.length=A1.length/\KpL [b] w w'/\aN w' b (P++(C1++(A2++(B++(A1++(C2++Q)))))),
  fun vs _=>match vs with|[.int _ i]=>A.length - i.toNat|_=>0,⟨[],A,[],C,rfl,rfl,rfl,rfl,KpL.refl _ _,h⟩,?_⟩
 rintro n1 w1 ⟨A1,A2,C1,C2,hv,rfl,rfl,hl1,hk,hc⟩
 obtain rfl:=v1 hv
 simp only[List.length_append]at hl hn hy hz
 constructor
 ·intro hlt
  obtain⟨u,A2',rfl⟩:=eL (l:=A2) (by omega)
  obtain⟨v,C2',rfl⟩:=eL (l:=C2) (by omega)
  simp only[List.length_cons]at hl hn hy hz
  have ex:(x+(A1.length:Int)).toNat=P.length+C1.length:=by omega
  have ey:(y+(A1.length:Int)).toNat=P.length+C1.length+A2'.length+1+B.length+A1.length:=by omega
  have gv:=hc.get (i:=(y+(A1.length:Int)).toNat) (x:=v) (by
   rw[ey,show P++(C1++((u::A2')++(B++(A1++((v::C2')++Q)))))=(P++(C1++((u::A2')++(B++A1))))++v::(C2'++Q) from by simp]
   exact fU (by simp;omega) _)
  have gu:=hc.get (i:=(x+(A1.length:Int)).toNat) (x:=u) (by
   rw[ex,show P++(C1++((u::A2')++(B++(A1++((v::C2')++Q)))))=(P++C1)++u::(A2'++(B++(A1++((v::C2')++Q)))) from by simp]
   exact fU (by simp) _)
  refine⟨ae.2 (by omega),ae.2 (by omega),ae.2 (by omega),_,rfl,by omega,by omega,v.a1,v.n1,v.c1,v.a2,v.n2,v.c2,gv.1,ae.2 (by omega),_,rfl,by omega,by omega,u.a1,u.n1,u.c1,u.a2,u.n2,u.c2,gu.1,_,rfl,by omega,by omega,fun w2 hk2=>?_⟩
  have hc2:=hc.kp0 hk2
  obtain⟨s1,s2,s3,s4⟩:=hc2.set (i:=(x+(A1.length:Int)).toNat) (x:=v) (by simp;omega) (gv.2.kp0 hk2)
  refine⟨s1,s2,?_⟩
  rintro w3 rfl
  obtain⟨t1,t2,t3,t4⟩:=s3.set (i:=(y+(A1.length:Int)).toNat) (x:=u) (by simp;omega) ((gu.2.kp0 hk2).kp s4 (by simp))
  refine⟨_,rfl,by omega,by omega,t1,t2,?_⟩
  rintro w4 rfl
  have hk4:=((hk.trans (hk2.mono (by simp))).trans s4).trans t4
  refine⟨ae.2 (by omega),⟨A1++[u],A2',C1++[v],C2',by simp,by simp,by simp,by simp[hl1],hk4,?_⟩,?_⟩
  ·have e1:(P++(C1++((u::A2')++(B++(A1++((v::C2')++Q)))))).set (x+(A1.length:Int)).toNat v=P++(C1++((v::A2')++(B++(A1++((v::C2')++Q))))):=by
    rw[show P++(C1++((u::A2')++(B++(A1++((v::C2')++Q)))))=(P++C1)++u::(A2'++(B++(A1++((v::C2')++Q)))) from by simp,fZ (by simp;omega)]
    simp
   have e2:(P++(C1++((v::A2')++(B++(A1++((v::C2')++Q)))))).set (y+(A1.length:Int)).toNat u=P++((C1++[v])++(A2'++(B++((A1++[u])++(C2'++Q))))):=by
    rw[show P++(C1++((v::A2')++(B++(A1++((v::C2')++Q)))))=(P++(C1++((v::A2')++(B++A1))))++v::(C2'++Q) from by simp,fZ (by simp;omega)]
    simp
   rw[e1,e2]at t3
   exact t3
  ·simp only[List.length_append,List.length_cons];omega
 ·intro hge
  have h1:=bS (l:=A2) (by omega)
  have h2:=bS (l:=C2) (by omega)
  subst h1 h2
  refine⟨rfl,hk,_,hc,by simp⟩
theorem xK{w:World}{b:Nat}{P A B Q:List RC}{f:FuncId}{fi ca:Array Value}{n c:Nat}(h:aN w b (P++(A++(B++Q))))(hn:n=(P++(A++(B++Q))).length)(hb:n<=1000000)(hA:0<A.length)(hB:0<B.length){x y z:Int}
 (hx:x=P.length)(hy:y=x+A.length)(hz:z=y+B.length):
 Calls Zz 216 #[sK b n c,iv x,iv y,iv z,.func (.func f) fi ca] w (Dy w b fun ys=>ys=P++(B++(A++Q))):=by
 have hlen:n=P.length+(A.length+(B.length+Q.length)):=by simpa using hn
 refine wU ⟨ae.2 (by omega),ae.2 (by omega),fun vs w'=>∃(P' X Y Q':List RC),vs=[iv (X.length:Int),iv (Y.length:Int)]/\y=P'.length+X.length/\0<X.length/\0<Y.length/\n=(P'++(X++(Y++Q'))).length/\
  KpL [b] w w'/\aN w' b (P'++(X++(Y++Q')))/\P'++(Y++(X++Q'))=P++(B++(A++Q)),fun vs _=>match vs with|[.int _ i,.int _ j]=>i.toNat+j.toNat|_=>0,
  ⟨P,A,B,Q,by rw[show y - x=(A.length:Int) by omega,show z - y=(B.length:Int) by omega],by omega,hA,hB,hn,KpL.refl _ _,h,rfl⟩,?_⟩
 rintro n1 n2 w1 ⟨P',X,Y,Q',hv,hy',hX,hY,hn',hk,hc,he⟩
 simp only[List.cons.injEq,Value.int.injEq,true_and,and_true]at hv
 obtain⟨rfl,rfl⟩:=hv
 have hlen':n=P'.length+(X.length+(Y.length+Q'.length)):=by simpa using hn'
 refine⟨fun hne=>⟨fun hlt=>⟨ae.2 (by omega),?_⟩,fun hnl=>⟨ae.2 (by omega),ae.2 (by omega),ae.2 (by omega),?_⟩⟩,fun heq=>⟨ae.2 (by omega),?_⟩⟩
 ·obtain⟨X1,X2,rfl,hX1⟩:=dG (l:=X) (n:=Y.length) (by omega)
  simp only[List.length_append]at hlen' hy' hlt hne hX ⊢
  refine⟨(gN (P:=P') (A:=X1) (B:=X2) (C:=Y) (Q:=Q') (by simpa using hc) (by simp;omega) hX1 hb (by omega) (by omega) (by omega)).mono ?_⟩
  rintro e w2 ⟨rfl,hk2,ys,hc2,rfl⟩
  refine⟨rfl,_,hk2,ae.2 (by omega),⟨P'++Y,X2,X1,Q',?_,by simp;omega,by omega,by omega,by simp;omega,hk.trans hk2,by simpa using hc2,by simpa using he⟩,?_⟩
  ·rw[show(((X1.length+X2.length:Nat):Int) - (Y.length:Int))=(X2.length:Int) by omega,hX1]
  ·omega
 ·obtain⟨Y1,Y2,rfl,hY1⟩:=dG (l:=Y) (n:=Y.length - X.length) (by omega)
  simp only[List.length_append]at hlen' hy' hnl hne hY hY1 ⊢
  refine⟨(gN (P:=P') (A:=X) (B:=Y1) (C:=Y2) (Q:=Q') (by simpa using hc) (by simp;omega) (by omega) hb (by omega) (by omega) (by omega)).mono ?_⟩
  rintro e w2 ⟨rfl,hk2,ys,hc2,rfl⟩
  refine⟨rfl,_,hk2,ae.2 (by omega),⟨P',Y2,Y1,X++Q',?_,by omega,by omega,by omega,by simp;omega,hk.trans hk2,by simpa using hc2,by simpa using he⟩,?_⟩
  ·rw[show(((Y1.length+Y2.length:Nat):Int) - (X.length:Int))=(Y1.length:Int) by omega,show Y2.length=X.length by omega]
  ·omega
 ·have:X.length=Y.length:=by have:=Classical.not_not.1 heq;omega
  refine⟨(gN (P:=P') (A:=X) (B:=[]) (C:=Y) (Q:=Q') (by simpa using hc) (by simp<;>omega) this hb (by omega) (by simp<;>omega) (by omega)).mono ?_⟩
  rintro e w2 ⟨rfl,hk2,ys,hc2,rfl⟩
  exact⟨rfl,_,hk2,rfl,hk.trans hk2,_,hc2,by simpa using he⟩
theorem kG{w:World}{b:Nat}{P S Q:List RC}{f:FuncId}{fi ca:Array Value}{n c:Nat}(h:aN w b (P++(S++Q)))(hf:rU w b f fi ca)(hn:n=(P++(S++Q)).length)(hb:n<=1000000){x y:Int}(hx:x=P.length)(hy:y=x+S.length):
 Calls Zz 210 #[sK b n c,iv x,iv y,.func (.func f) fi ca] w (Dy w b fun ys=>∃S',ys=P++(S'++Q)/\S'.Perm S/\PW S'):=by
 have hlen:n=P.length+(S.length+Q.length):=by simpa using hn
 refine kM ⟨ae.2 (by omega),fun vs w'=>∃(T U:List RC),vs=[iv (x+1+(T.length - 1:Nat))]/\(T++U).Perm S/\PW T/\(T.length=0->S=[])/\KpL [b] w w'/\aN w' b (P++(T++(U++Q))),
  fun vs _=>match vs with|[.int _ i]=>y.toNat - i.toNat|_=>0,?_,?_⟩
 ·cases S with
  |nil=>exact⟨[],[],by simp,by simp,by simp,fun _=>rfl,KpL.refl _ _,by simpa using h⟩
  |cons s S=>exact⟨[s],S,by simp,by simp,by simp,fun hc=>by simp at hc,KpL.refl _ _,by simpa using h⟩
 rintro n1 w1 ⟨T,U,hv,hp,hs,ht0,hk,hc⟩
 obtain rfl:=v1 hv
 have hpl:=hp.length_eq
 simp only[List.length_append]at hpl
 constructor
 ·intro hlt
  have hT:0<T.length:=by
   rcases Nat.eq_zero_or_pos T.length with h0|h0
   ·have:S.length=0:=by rw[ht0 h0];rfl
    omega
   ·exact h0
  obtain⟨v,U',rfl⟩:=eL (l:=U) (by omega)
  simp only[List.length_cons]at hpl
  refine⟨fun vs w'=>∃(T1 T2:List RC),vs=[iv (x+T1.length)]/\T=T1++T2/\(∀t∈T2,jQ v t)/\KpL [b] w w'/\aN w' b (P++(T1++(v::(T2++(U'++Q))))),fun vs _=>match vs with|[.int _ i]=>i.toNat - x.toNat|_=>0,
   ⟨T,[],by simp;omega,by simp,by simp,hk,by simpa using hc⟩,?_⟩
  rintro n2 w2 ⟨T1,T2,hv2,rfl,hT2,hk2,hc2⟩
  simp only[List.cons.injEq,Value.int.injEq,true_and,and_true]at hv2
  subst hv2
  simp only[List.length_append]at hpl hT hlt ⊢
  have fin:∀{w':World},(∀t∈T1,jQ t v)->KpL [] w2 w'->(∃(T U:List RC),[Value.int .i64 (x+1+((T1.length+T2.length - 1:Nat):Int)+1)]=[iv (x+1+(T.length - 1:Nat))]/\(T++U).Perm S/\PW T/\(T.length=0->S=[])/\KpL [b] w w'/\aN w' b (P++(T++(U++Q))))/\
   y.toNat - (x+1+((T1.length+T2.length - 1:Nat):Int)+1).toNat<y.toNat - (x+1+((T1.length+T2.length - 1:Nat):Int)).toNat:=by
   intro w' hle hkw
   refine⟨⟨T1++v::T2,U',by simp;omega,?_,ui hs hle hT2,by simp,hk2.trans (hkw.mono (by simp)),by simpa using hc2.kp0 hkw⟩,by omega⟩
   refine List.Perm.trans ?_ hp
   simp only[List.append_assoc,List.cons_append]
   refine List.Perm.append_left T1 ?_
   exact(List.perm_middle (l₁:=T2) (l₂:=U') (a:=v)).symm
  constructor
  ·intro hgt
   obtain⟨T1',t,rfl⟩:=kO (l:=T1) (by omega)
   simp only[List.length_append,List.length_cons,List.length_nil,Nat.zero_add]at hpl hlt hgt fin ⊢
   have ei:(x+((T1'.length+1:Nat):Int)).toNat=P.length+T1'.length+1:=by omega
   have ej:(x+((T1'.length+1:Nat):Int) - 1).toNat=P.length+T1'.length:=by omega
   have e0:P++((T1'++[t])++(v::(T2++(U'++Q))))=(P++T1')++t::v::(T2++(U'++Q)):=by simp
   rw[e0]at hc2
   have gv:=hc2.get (i:=(x+((T1'.length+1:Nat):Int)).toNat) (x:=v) (by
    rw[ei,show(P++T1')++t::v::(T2++(U'++Q))=((P++T1')++[t])++v::(T2++(U'++Q)) from by simp]
    exact fU (by simp;omega) _)
   have gt:=hc2.get (i:=(x+((T1'.length+1:Nat):Int) - 1).toNat) (x:=t) (by rw[ej];exact fU (by simp) _)
   have hbnd:(0:Int)<=x+((T1'.length+1:Nat):Int)/\x+((T1'.length+1:Nat):Int)<n/\0<=x+((T1'.length+1:Nat):Int) - 1/\x+((T1'.length+1:Nat):Int) - 1<n:=by omega
   obtain⟨b1,b2,b3,b4⟩:=hbnd
   refine⟨_,rfl,b1,b2,v.a1,v.n1,v.c1,v.a2,v.n2,v.c2,gv.1,ae.2 (by omega),_,rfl,b3,b4,t.a1,t.n1,t.c1,t.a2,t.n2,t.c2,gt.1,hf.ok,fun w3 hk3=>⟨(hf.calls v t w3 (hk2.trans (hk3.mono (by simp))) (gv.2.kp0 hk3) (gt.2.kp0 hk3)).mono ?_⟩⟩
   rintro e w4 ⟨rfl,hk4⟩
   have hk24:=hk3.trans hk4
   refine⟨_,rfl,[],hk4,fun hneg=>?_,fun hnn=>⟨ae.2 (by omega),?_⟩⟩
   ·have hc4:=hc2.kp0 hk24
    refine⟨ae.2 (by omega),ae.2 (by omega),_,rfl,b3,b4,t.a1,t.n1,t.c1,t.a2,t.n2,t.c2,gt.1.kp hk24,_,rfl,b1,b2,v.a1,v.n1,v.c1,v.a2,v.n2,v.c2,gv.1.kp hk24,_,rfl,b1,b2,fun w5 hk5=>?_⟩
    have hc5:=hc4.kp0 hk5
    obtain⟨s1,s2,s3,s4⟩:=hc5.set (i:=(x+((T1'.length+1:Nat):Int)).toNat) (x:=t) (by simp;omega) ((gt.2.kp0 hk24).kp0 hk5)
    refine⟨s1,s2,?_⟩
    rintro w6 rfl
    obtain⟨t1,t2,t3,t4⟩:=s3.set (i:=(x+((T1'.length+1:Nat):Int) - 1).toNat) (x:=v) (by simp;omega) (((gv.2.kp0 hk24).kp0 hk5).kp s4 (by simp))
    refine⟨_,rfl,b3,b4,t1,t2,?_⟩
    rintro w7 rfl
    refine⟨ae.2 (by omega),⟨T1',t::T2,?_,by simp,fun u hu=>?_,((hk2.trans ((hk24.trans hk5).mono (by simp))).trans s4).trans t4,?_⟩,?_⟩
    ·rw[show x+((T1'.length+1:Nat):Int) - 1=x+(T1'.length:Int) by omega]
    ·rcases List.mem_cons.1 hu with rfl|hu
     ·exact jc hneg
     ·exact hT2 u hu
    ·have e1:((P++T1')++t::v::(T2++(U'++Q))).set (x+((T1'.length+1:Nat):Int)).toNat t=(P++T1')++t::t::(T2++(U'++Q)):=by
      rw[show(P++T1')++t::v::(T2++(U'++Q))=((P++T1')++[t])++v::(T2++(U'++Q)) from by simp,fZ (by simp;omega)]
      simp
     rw[e1,fZ (by simp;omega)]at t3
     simpa[RC.cs]using t3
    ·omega
   ·refine fin (fun u hu=>?_) hk24
    have htv:jQ t v:=cE hnn
    have hsT:=(ic.1 hs).1
    rcases List.mem_append.1 hu with hu|hu
    ·exact eA ((ic.1 hsT).2.2 u hu t (by simp)) htv
    ·simp at hu;subst hu;exact htv
  ·intro hng
   have h0:=bS (l:=T1) (by omega)
   subst h0
   exact⟨ae.2 (by simp at hlt ⊢;omega),fun w8 hk8=>fin (by simp) hk8⟩
 ·intro hge
  have hU:U=[]:=by
   rcases Nat.eq_zero_or_pos T.length with h0|h0
   ·have:=ht0 h0;subst this;simp at hpl;exact hpl.2
   ·exact bS (by omega)
  subst hU
  exact⟨rfl,hk,_,hc,T,by simp,by simpa using hp,hs⟩
end Go.Vc
namespace Go.Vc
open Go Go.Proofs
theorem m6{s:Int}(h0:0<=s)(h1:s<=4000000):IntKind.i64.wrap (Int.fdiv (IntKind.u64.wrap s) (((2:Nat) ^ (1:Nat):Nat):Int))=s / 2:=by
 rw[aE (aJ.2 (by omega)),eU]
 have:(((2:Nat) ^ (1:Nat):Nat):Int)=2:=rfl
 rw[this]
 exact aE (ae.2 (by omega))
set_option maxHeartbeats 2000000 in
theorem mC{b:Nat}{f:FuncId}{fi ca:Array Value}:∀(N:Nat) {w:World} {P A B Q:List RC} {n c:Nat},A.length+B.length<=N->aN w b (P++(A++(B++Q)))->rU w b f fi ca->n=(P++(A++(B++Q))).length->n<=1000000->
 0<A.length->0<B.length->PW A->PW B->∀{x y z:Int},x=P.length->y=x+A.length->z=y+B.length->
 Calls Zz 211 #[sK b n c,iv x,iv y,iv z,.func (.func f) fi ca] w (Dy w b fun ys=>∃S',ys=P++(S'++Q)/\S'.Perm (A++B)/\PW S'):=by
 intro N
 induction N with
 |zero=>intro w P A B Q n c h1 _ _ _ _ h2;omega
 |succ N ih =>
 intro w P A B Q n c hN h hf hn hb hA hB pA pB x y z hx hy hz
 have hlen:n=P.length+(A.length+(B.length+Q.length)):=by simpa using hn
 have getA:∀{w':World} {t:Nat} {u:RC},aN w' b (P++(A++(B++Q)))->A[t]?=some u->∀{i:Int},i=x+t->ao w' ((⟨b,0,none⟩:Addr).add (i.toNat*2)) u.cs/\R aC [b] w' u.c u.cs:=by
  intro w' t u hc hu i hi
  have ht:=(List.getElem?_eq_some_iff.1 hu).1
  refine hc.get (i:=i.toNat) ?_
  rw[show i.toNat=P.length+t from by omega,List.getElem?_append_right (by omega),Nat.add_sub_cancel_left,List.getElem?_append_left ht]
  exact hu
 have getB:∀{w':World} {t:Nat} {u:RC},aN w' b (P++(A++(B++Q)))->B[t]?=some u->∀{i:Int},i=y+t->ao w' ((⟨b,0,none⟩:Addr).add (i.toNat*2)) u.cs/\R aC [b] w' u.c u.cs:=by
  intro w' t u hc hu i hi
  have ht:=(List.getElem?_eq_some_iff.1 hu).1
  refine hc.get (i:=i.toNat) ?_
  rw[show i.toNat=P.length+(A.length+t) from by omega,List.getElem?_append_right (by omega),Nat.add_sub_cancel_left,List.getElem?_append_right (by omega),Nat.add_sub_cancel_left,List.getElem?_append_left ht]
  exact hu
 have hge:∀{L:List RC} {t:Nat} {u:RC},L[t]?=some u->t<L.length:=fun h=>(List.getElem?_eq_some_iff.1 h).1
 refine rt ⟨ae.2 (by omega),fun h1=>?_,fun h1=>⟨ae.2 (by omega),fun h2=>?_,fun h2=>⟨ae.2 (by omega),?_⟩⟩⟩
 ·
  obtain⟨v,A',rfl⟩:=eL hA
  have hA':=bS (l:=A') (by simp at hy;omega)
  subst hA'
  refine⟨fun vs w'=>∃(p q:Nat),vs=[iv (y+p),iv (y+q)]/\p<=q/\q<=B.length/\(∀t u,t<p->B[t]?=some u->qb u v)/\(∀t u,q<=t->B[t]?=some u->¬qb u v)/\KpL [b] w w'/\aN w' b (P++([v]++(B++Q))),
   fun vs _=>match vs with|[.int _ i,.int _ j]=>j.toNat - i.toNat|_=>0,⟨0,B.length,by simp;omega,by omega,by omega,by omega,fun t u ht hu=>by have:=hge hu;omega,KpL.refl _ _,h⟩,?_⟩
  rintro n1 n2 w1 ⟨p,q,hv,hpq,hq,hlo,hhi,hk,hc⟩
  simp only[List.cons.injEq,Value.int.injEq,true_and,and_true]at hv
  obtain⟨rfl,rfl⟩:=hv
  constructor
  ·intro hlt
   rw[m6 (by omega) (by omega)]
   have em:(y+(p:Int)+(y+(q:Int))) / 2=y+((p+q) / 2:Nat):=by omega
   rw[em]
   have hm:(p+q) / 2<B.length:=by omega
   have hBm:=List.getElem?_eq_getElem hm
   have gB:=getB hc hBm rfl
   have gA:=getA hc (t:=0) (u:=v) rfl (i:=x) (by omega)
   generalize B[(p+q) / 2]=u at *
   refine⟨ae.2 (by omega),_,rfl,by omega,by omega,u.a1,u.n1,u.c1,u.a2,u.n2,u.c2,gB.1,_,rfl,by omega,by omega,v.a1,v.n1,v.c1,v.a2,v.n2,v.c2,gA.1,hf.ok,fun w2 hk2=>⟨(hf.calls u v w2 (hk.trans (hk2.mono (by simp))) (gB.2.kp0 hk2) (gA.2.kp0 hk2)).mono ?_⟩⟩
   rintro e w3 ⟨rfl,hk3⟩
   have hk03:KpL [b] w w3:=hk.trans ((hk2.trans hk3).mono (by simp))
   have hc3:=hc.kp0 (hk2.trans hk3)
   refine⟨_,rfl,[],hk3,fun hneg=>⟨ae.2 (by omega),⟨(p+q) / 2+1,q,?_,by omega,hq,fun t s ht hs=>?_,hhi,hk03,hc3⟩,by dsimp only;omega⟩,fun hnn=>⟨⟨p,(p+q) / 2,rfl,by omega,by omega,hlo,fun t s ht hs=>?_,hk03,hc3⟩,by dsimp only;omega⟩⟩
   ·rw[show y+(((p+q) / 2:Nat):Int)+1=y+(((p+q) / 2+1:Nat):Int) by omega]
   ·exact wG (ia pB (by omega) hs hBm) hneg
   ·exact fun hc'=>hnn (wG (ia pB ht hBm hs) hc')
  ·intro hge'
   have hpe:p=q:=by omega
   subst hpe
   obtain⟨B1,B2,rfl,hB1⟩:=dG hq
   simp only[List.length_append]at hlen hq hN hz
   refine⟨fun vs w'=>∃(C1 C2:List RC),vs=[iv (x+C1.length)]/\B1=C1++C2/\KpL [b] w w'/\aN w' b (P++(C1++(v::(C2++(B2++Q))))),fun vs _=>match vs with|[.int _ i]=>(x+B1.length).toNat - i.toNat|_=>0,
    ⟨[],B1,by simp,rfl,hk,by simpa using hc⟩,?_⟩
   rintro n4 w4 ⟨C1,C2,hv,rfl,hk4,hc4⟩
   obtain rfl:=v1 hv
   simp only[List.length_append]at hlen hB1
   refine⟨ae.2 (by omega),fun hlt=>?_,fun hge2=>?_⟩
   ·obtain⟨u,C2',rfl⟩:=eL (l:=C2) (by simp at hy;omega)
    simp only[List.length_cons]at hlen hB1 hlt
    have e0:P++(C1++(v::((u::C2')++(B2++Q))))=(P++C1)++v::u::(C2'++(B2++Q)):=by simp
    rw[e0]at hc4
    have ei:(x+(C1.length:Int)).toNat=(P++C1).length:=by simp;omega
    have ej:(x+(C1.length:Int)+1).toNat=((P++C1)++[v]).length:=by simp;omega
    have gv:=hc4.get (i:=(x+(C1.length:Int)).toNat) (x:=v) (fU ei _)
    have gu:=hc4.get (i:=(x+(C1.length:Int)+1).toNat) (x:=u) (by
     rw[show(P++C1)++v::u::(C2'++(B2++Q))=((P++C1)++[v])++u::(C2'++(B2++Q)) from by simp]
     exact fU ej _)
    have b1:(0:Int)<=x+(C1.length:Int)+1:=by omega
    have b2:x+(C1.length:Int)+1<n:=by simp at hlen;omega
    have b3:(0:Int)<=x+(C1.length:Int):=by omega
    have b4:x+(C1.length:Int)<n:=by omega
    refine⟨ae.2 (by omega),ae.2 (by omega),_,rfl,b1,b2,u.a1,u.n1,u.c1,u.a2,u.n2,u.c2,gu.1,_,rfl,b3,b4,v.a1,v.n1,v.c1,v.a2,v.n2,v.c2,gv.1,_,rfl,b3,b4,fun w5 hk5=>?_⟩
    have hc5:=hc4.kp0 hk5
    obtain⟨s1,s2,s3,s4⟩:=hc5.set (i:=(x+(C1.length:Int)).toNat) (x:=u) (by rw[ei];simp) (gu.2.kp0 hk5)
    refine⟨s1,s2,?_⟩
    rintro w6 rfl
    obtain⟨t1,t2,t3,t4⟩:=s3.set (i:=(x+(C1.length:Int)+1).toNat) (x:=v) (by rw[ej];simp) ((gv.2.kp0 hk5).kp s4 (by simp))
    refine⟨_,rfl,b1,b2,t1,t2,?_⟩
    rintro w7 rfl
    refine⟨ae.2 (by omega),⟨C1++[u],C2',?_,by simp,((hk4.trans (hk5.mono (by simp))).trans s4).trans t4,?_⟩,?_⟩
    ·rw[show x+(C1.length:Int)+1=x+((C1++[u]).length:Int) by simp;omega]
    ·rw[fZ ei,show(P++C1)++u::u::(C2'++(B2++Q))=((P++C1)++[u])++u::(C2'++(B2++Q)) from by simp,fZ (by rw[ej];simp)]at t3
     simpa[RC.cs]using t3
    ·simp only[List.length_append,List.length_cons];omega
   ·have h0:=bS (l:=C2) (by simp at hy;omega)
    subst h0
    rw[List.append_nil]at *
    refine⟨rfl,hk4,_,hc4,C1++v::B2,by simp,?_,ui pB (fun u hu=>?_) (fun u hu=>?_)⟩
    ·exact List.perm_middle
    ·obtain⟨t,ht,rfl⟩:=List.getElem_of_mem hu
     simp at hB1
     exact jc (hlo t _ (by omega) (by rw[List.getElem?_append_left ht,List.getElem?_eq_getElem ht]))
    ·obtain⟨t,ht,rfl⟩:=List.getElem_of_mem hu
     simp at hB1
     exact cE (hhi (p+t) _ (by omega) (by rw[List.getElem?_append_right (by omega),show p+t - C1.length=t from by omega,List.getElem?_eq_getElem ht]))
 ·
  obtain⟨v,B',rfl⟩:=eL hB
  have hB':=bS (l:=B') (by simp at hz;omega)
  subst hB'
  refine⟨fun vs w'=>∃(p q:Nat),vs=[iv (x+p),iv (x+q)]/\p<=q/\q<=A.length/\(∀t u,t<p->A[t]?=some u->¬qb v u)/\(∀t u,q<=t->A[t]?=some u->qb v u)/\KpL [b] w w'/\aN w' b (P++(A++([v]++Q))),
   fun vs _=>match vs with|[.int _ i,.int _ j]=>j.toNat - i.toNat|_=>0,⟨0,A.length,by simp;omega,by omega,by omega,by omega,fun t u ht hu=>by have:=hge hu;omega,KpL.refl _ _,h⟩,?_⟩
  rintro n1 n2 w1 ⟨p,q,hv,hpq,hq,hlo,hhi,hk,hc⟩
  simp only[List.cons.injEq,Value.int.injEq,true_and,and_true]at hv
  obtain⟨rfl,rfl⟩:=hv
  constructor
  ·intro hlt
   rw[m6 (by omega) (by omega)]
   have em:(x+(p:Int)+(x+(q:Int))) / 2=x+((p+q) / 2:Nat):=by omega
   rw[em]
   have hm:(p+q) / 2<A.length:=by omega
   have hAm:=List.getElem?_eq_getElem hm
   have gA:=getA hc hAm rfl
   have gB:=getB hc (t:=0) (u:=v) rfl (i:=y) (by omega)
   generalize A[(p+q) / 2]=u at *
   refine⟨ae.2 (by omega),_,rfl,by omega,by simp at hlen;omega,v.a1,v.n1,v.c1,v.a2,v.n2,v.c2,gB.1,_,rfl,by omega,by omega,u.a1,u.n1,u.c1,u.a2,u.n2,u.c2,gA.1,hf.ok,fun w2 hk2=>⟨(hf.calls v u w2 (hk.trans (hk2.mono (by simp))) (gB.2.kp0 hk2) (gA.2.kp0 hk2)).mono ?_⟩⟩
   rintro e w3 ⟨rfl,hk3⟩
   have hk03:KpL [b] w w3:=hk.trans ((hk2.trans hk3).mono (by simp))
   have hc3:=hc.kp0 (hk2.trans hk3)
   refine⟨_,rfl,[],hk3,fun hnn=>⟨ae.2 (by omega),⟨(p+q) / 2+1,q,?_,by omega,hq,fun t s ht hs=>?_,hhi,hk03,hc3⟩,by dsimp only;omega⟩,fun hneg=>⟨⟨p,(p+q) / 2,rfl,by omega,by omega,hlo,fun t s ht hs=>?_,hk03,hc3⟩,by dsimp only;omega⟩⟩
   ·rw[show x+(((p+q) / 2:Nat):Int)+1=x+(((p+q) / 2+1:Nat):Int) by omega]
   ·exact fun hc'=>hnn (wm hc' (ia pA (by omega) hs hAm))
   ·exact wm (Classical.not_not.1 hneg) (ia pA ht hAm hs)
  ·intro hge'
   have hpe:p=q:=by omega
   subst hpe
   obtain⟨A1,A2,rfl,hA1⟩:=dG hq
   simp only[List.length_append]at hlen hq hN hy
   refine⟨fun vs w'=>∃(C1 C2:List RC),vs=[iv (x+p+C1.length)]/\A2=C1++C2/\KpL [b] w w'/\aN w' b (P++(A1++(C1++(v::(C2++Q))))),fun vs _=>match vs with|[.int _ i]=>i.toNat|_=>0,
    ⟨A2,[],by rw[show y=x+p+A2.length by omega],by simp,hk,by simpa using hc⟩,?_⟩
   rintro n8 w4 ⟨C1,C2,hv,rfl,hk4,hc4⟩
   obtain rfl:=v1 hv
   simp only[List.length_append]at hlen
   refine⟨fun hlt=>?_,fun hge2=>?_⟩
   ·obtain⟨C1',u,rfl⟩:=kO (l:=C1) (by omega)
    simp only[List.length_append,List.length_cons,List.length_nil,Nat.zero_add]at hlen hlt ⊢
    have e0:P++(A1++((C1'++[u])++(v::(C2++Q))))=(P++(A1++C1'))++u::v::(C2++Q):=by simp
    rw[e0]at hc4
    have ej:(x+(p:Int)+((C1'.length+1:Nat):Int) - 1).toNat=(P++(A1++C1')).length:=by simp;omega
    have ei:(x+(p:Int)+((C1'.length+1:Nat):Int)).toNat=((P++(A1++C1'))++[u]).length:=by simp;omega
    have gu:=hc4.get (i:=(x+(p:Int)+((C1'.length+1:Nat):Int) - 1).toNat) (x:=u) (fU ej _)
    have gv:=hc4.get (i:=(x+(p:Int)+((C1'.length+1:Nat):Int)).toNat) (x:=v) (by
     rw[show(P++(A1++C1'))++u::v::(C2++Q)=((P++(A1++C1'))++[u])++v::(C2++Q) from by simp]
     exact fU ei _)
    have b1:(0:Int)<=x+(p:Int)+((C1'.length+1:Nat):Int):=by omega
    have b2:x+(p:Int)+((C1'.length+1:Nat):Int)<n:=by omega
    have b3:(0:Int)<=x+(p:Int)+((C1'.length+1:Nat):Int) - 1:=by omega
    have b4:x+(p:Int)+((C1'.length+1:Nat):Int) - 1<n:=by omega
    refine⟨ae.2 (by omega),ae.2 (by omega),_,rfl,b3,b4,u.a1,u.n1,u.c1,u.a2,u.n2,u.c2,gu.1,_,rfl,b1,b2,v.a1,v.n1,v.c1,v.a2,v.n2,v.c2,gv.1,_,rfl,b1,b2,fun w5 hk5=>?_⟩
    have hc5:=hc4.kp0 hk5
    obtain⟨s1,s2,s3,s4⟩:=hc5.set (i:=(x+(p:Int)+((C1'.length+1:Nat):Int)).toNat) (x:=u) (by rw[ei];simp) (gu.2.kp0 hk5)
    refine⟨s1,s2,?_⟩
    rintro w6 rfl
    obtain⟨t1,t2,t3,t4⟩:=s3.set (i:=(x+(p:Int)+((C1'.length+1:Nat):Int) - 1).toNat) (x:=v) (by rw[ej];simp) ((gv.2.kp0 hk5).kp s4 (by simp))
    refine⟨_,rfl,b3,b4,t1,t2,?_⟩
    rintro w7 rfl
    refine⟨ae.2 (by omega),⟨C1',u::C2,?_,by simp,((hk4.trans (hk5.mono (by simp))).trans s4).trans t4,?_⟩,?_⟩
    ·rw[show x+(p:Int)+((C1'.length+1:Nat):Int) - 1=x+p+(C1'.length:Int) by omega]
    ·rw[show(P++(A1++C1'))++u::v::(C2++Q)=((P++(A1++C1'))++[u])++v::(C2++Q) from by simp,fZ ei,show((P++(A1++C1'))++[u])++u::(C2++Q)=(P++(A1++C1'))++u::u::(C2++Q) from by simp,fZ ej]at t3
     simpa[RC.cs]using t3
    ·omega
   ·have h0:=bS (l:=C1) (by omega)
    subst h0
    rw[List.nil_append]at *
    refine⟨rfl,hk4,_,hc4,A1++v::C2,by simp,?_,ui pA (fun u hu=>?_) (fun u hu=>?_)⟩
    ·exact List.perm_middle.trans (List.perm_append_singleton v (A1++C2)).symm
    ·obtain⟨t,ht,rfl⟩:=List.getElem_of_mem hu
     exact cE (hlo t _ (by omega) (by rw[List.getElem?_append_left ht,List.getElem?_eq_getElem ht]))
    ·obtain⟨t,ht,rfl⟩:=List.getElem_of_mem hu
     exact jc (hhi (p+t) _ (by omega) (by rw[List.getElem?_append_right (by omega),show p+t - A1.length=t from by omega,List.getElem?_eq_getElem ht]))
 ·
  rw[m6 (by omega) (by omega)]
  generalize hmid:(x+z) / 2=mid
  obtain⟨lo,hi,hlohi⟩:∃lo hi:Int,(mid<y->lo=mid+y - z/\hi=mid)/\(¬mid<y->lo=x/\hi=y):=by
   by_cases h:mid<y
   ·exact⟨_,_,fun _=>⟨rfl,rfl⟩,fun h'=>absurd h h'⟩
   ·exact⟨_,_,fun h'=>absurd h' h,fun _=>⟨rfl,rfl⟩⟩
  have hb0:x<=lo/\lo<=hi/\hi<=y/\hi<=mid/\mid+y - z<=lo:=by
   by_cases h:mid<y
   ·have:=hlohi.1 h;omega
   ·have:=hlohi.2 h;omega
  refine⟨ae.2 (by omega),fun vs w'=>vs=[iv lo,iv hi]/\w'=w,⟨fun h=>⟨ae.2 (by omega),?_,rfl⟩,fun h=>⟨?_,rfl⟩⟩,?_⟩
  ·rw[(hlohi.1 h).1,(hlohi.1 h).2]
  ·rw[(hlohi.2 h).1,(hlohi.2 h).2]
  rintro n9 n10 w15 ⟨hv,rfl⟩
  simp only[List.cons.injEq,Value.int.injEq,true_and,and_true]at hv
  obtain⟨rfl,rfl⟩:=hv
  let inv:Int->Int->World->Prop:=fun s r w'=>n9<=s/\s<=r/\r<=n10/\(∀t:Int,n9<=t->t<s->∀u v,A[(t - x).toNat]?=some u->B[(mid - 1 - t).toNat]?=some v->¬qb v u)/\
   (∀t:Int,r<=t->t<n10->∀u v,A[(t - x).toNat]?=some u->B[(mid - 1 - t).toNat]?=some v->qb v u)/\KpL [b] w15 w'/\aN w' b (P++(A++(B++Q)))
  refine⟨ae.2 (by omega),fun vs w'=>∃s:Int,vs=[iv s,iv s]/\inv s s w',⟨fun vs w'=>∃s r:Int,vs=[iv s,iv r]/\inv s r w',fun vs _=>match vs with|[.int _ i,.int _ j]=>j.toNat - i.toNat|_=>0,
   ⟨n9,n10,rfl,by omega,by omega,by omega,fun t h1 h2=>by omega,fun t h1 h2=>by omega,KpL.refl _ _,h⟩,?_⟩,?_⟩
  ·rintro n11 n12 w16 ⟨s,r,hv,i1,i2,i3,i4,i5,hk,hc⟩
   simp only[List.cons.injEq,Value.int.injEq,true_and,and_true]at hv
   obtain⟨rfl,rfl⟩:=hv
   refine⟨fun hlt=>?_,fun hge'=>?_⟩
   ·rw[m6 (by omega) (by omega)]
    generalize hcm:(n11+n12) / 2=cm
    have hc1:n11<=cm/\cm<n12:=by omega
    have hAl:(cm - x).toNat<A.length:=by omega
    have hBl:(mid - 1 - cm).toNat<B.length:=by omega
    have hAm:=List.getElem?_eq_getElem hAl
    have hBm:=List.getElem?_eq_getElem hBl
    have gA:=getA hc hAm (i:=cm) (by omega)
    have gB:=getB hc hBm (i:=mid+y - 1 - cm) (by omega)
    generalize A[(cm - x).toNat]=u at *
    generalize B[(mid - 1 - cm).toNat]=v at *
    refine⟨ae.2 (by omega),ae.2 (by omega),_,rfl,by omega,by omega,v.a1,v.n1,v.c1,v.a2,v.n2,v.c2,gB.1,_,rfl,by omega,by omega,u.a1,u.n1,u.c1,u.a2,u.n2,u.c2,gA.1,hf.ok,fun w2 hk2=>⟨(hf.calls v u w2 (hk.trans (hk2.mono (by simp))) (gB.2.kp0 hk2) (gA.2.kp0 hk2)).mono ?_⟩⟩
    rintro e w3 ⟨rfl,hk3⟩
    have hk03:KpL [b] w15 w3:=hk.trans ((hk2.trans hk3).mono (by simp))
    have hc3:=hc.kp0 (hk2.trans hk3)
    refine⟨_,rfl,[],hk3,fun hnn=>⟨ae.2 (by omega),⟨cm+1,n12,rfl,by omega,by omega,by omega,fun t h1 h2 u' v' hu' hv'=>?_,i5,hk03,hc3⟩,by dsimp only;omega⟩,fun hneg=>⟨⟨n11,cm,rfl,by omega,by omega,by omega,i4,fun t h1 h2 u' v' hu' hv'=>?_,hk03,hc3⟩,by dsimp only;omega⟩⟩
    ·
     have q1:jQ u' u:=ia pA (show(t - x).toNat<=(cm - x).toNat by omega) hu' hAm
     have q2:jQ v v':=ia pB (show(mid - 1 - cm).toNat<=(mid - 1 - t).toNat by omega) hBm hv'
     exact fun hc'=>hnn (wm (wG q2 hc') q1)
    ·have q1:jQ u u':=ia pA (show(cm - x).toNat<=(t - x).toNat by omega) hAm hu'
     have q2:jQ v' v:=ia pB (show(mid - 1 - t).toNat<=(mid - 1 - cm).toNat by omega) hv' hBm
     exact wm (wG q2 (Classical.not_not.1 hneg)) q1
   ·have:n11=n12:=by omega
    subst this
    exact⟨n11,rfl,i1,i2,i3,i4,i5,hk,hc⟩
  ·rintro n15 n14 w19 ⟨s,hv,i1,i2,i3,i4,i5,hk,hc⟩
   simp only[List.cons.injEq,Value.int.injEq,true_and,and_true]at hv
   obtain⟨rfl,rfl⟩:=hv
   obtain⟨A1,A2,rfl,hA1⟩:=dG (l:=A) (n:=(n14 - x).toNat) (by omega)
   obtain⟨B1,B2,rfl,hB1⟩:=dG (l:=B) (n:=(mid - n14).toNat) (by omega)
   simp only[List.length_append]at hlen hy hz hN hA hB
   obtain⟨pA1,pA2,pA12⟩:=ic.1 pA
   obtain⟨pB1,pB2,pB12⟩:=ic.1 pB
   have c12:∀u∈A1,∀v∈B2,jQ u v:=by
    intro u hu v hv
    have hA1p:0<A1.length:=List.length_pos_of_mem hu
    have hB2p:0<B2.length:=List.length_pos_of_mem hv
    obtain⟨A1',u0,rfl⟩:=kO hA1p
    obtain⟨v0,B2',rfl⟩:=eL hB2p
    simp only[List.length_append,List.length_cons,List.length_nil,Nat.zero_add]at hA1 hlen hy hz
    have hn14:n9<=n14 - 1:=by
     by_cases h:mid<y
     ·have:=hlohi.1 h;omega
     ·have:=hlohi.2 h;omega
    have:=i4 (n14 - 1) hn14 (by omega) u0 v0 (by
     rw[show(n14 - 1 - x).toNat=A1'.length from by omega];simp) (by
     rw[show(mid - 1 - (n14 - 1)).toNat=B1.length from by omega];simp)
    refine eA (?_:jQ u u0) (eA (cE this) (?_:jQ v0 v))
    ·rcases List.mem_append.1 hu with hu|hu
     ·exact(ic.1 pA1).2.2 u hu u0 (by simp)
     ·simp at hu;subst hu;exact cE (fun h=>by unfold qb at h;rw[bB.2 rfl]at h;omega)
    ·rcases List.mem_cons.1 hv with rfl|hv
     ·exact cE (fun h=>by unfold qb at h;rw[bB.2 rfl]at h;omega)
     ·exact(List.pairwise_cons.1 pB2).1 v hv
   have c21:∀v∈B1,∀u∈A2,jQ v u:=by
    intro v hv u hu
    have hB1p:0<B1.length:=List.length_pos_of_mem hv
    have hA2p:0<A2.length:=List.length_pos_of_mem hu
    obtain⟨B1',v0,rfl⟩:=kO hB1p
    obtain⟨u0,A2',rfl⟩:=eL hA2p
    simp only[List.length_append,List.length_cons,List.length_nil,Nat.zero_add]at hB1 hlen hy hz
    have hn14:n14<n10:=by
     by_cases h:mid<y
     ·have:=hlohi.1 h;omega
     ·have:=hlohi.2 h;omega
    have:=i5 n14 (by omega) hn14 u0 v0 (by
     rw[show(n14 - x).toNat=A1.length from by omega];simp) (by
     rw[show(mid - 1 - n14).toNat=B1'.length from by omega];simp)
    refine eA (?_:jQ v v0) (eA (jc this) (?_:jQ u0 u))
    ·rcases List.mem_append.1 hv with hv|hv
     ·exact(ic.1 pB1).2.2 v hv v0 (by simp)
     ·simp at hv;subst hv;exact cE (fun h=>by unfold qb at h;rw[bB.2 rfl]at h;omega)
    ·rcases List.mem_cons.1 hu with rfl|hu
     ·exact cE (fun h=>by unfold qb at h;rw[bB.2 rfl]at h;omega)
     ·exact(List.pairwise_cons.1 pA2).1 u hu
   refine⟨ae.2 (by omega),fun _ w'=>KpL [b] w15 w'/\aN w' b (P++(A1++(B1++(A2++(B2++Q))))),⟨fun g1=>⟨fun g2=>?_,fun g2=>?_⟩,fun g1=>?_⟩,?_⟩
   ·refine⟨(xK (P:=P++A1) (A:=A2) (B:=B1) (Q:=B2++Q) (by simpa using hc) (by simp;omega) hb (by omega) (by omega) (by simp;omega) (by omega) (by omega)).mono ?_⟩
    rintro e w20 ⟨rfl,hk20,ys,hc20,rfl⟩
    exact⟨rfl,_,hk20,hk.trans hk20,by simpa using hc20⟩
   ·have h0:=bS (l:=B1) (by omega)
    subst h0
    exact⟨hk,by simpa using hc⟩
   ·have h0:=bS (l:=A2) (by omega)
    subst h0
    exact⟨hk,by simpa using hc⟩
   rintro w21 ⟨hk21,hc21⟩
   refine⟨fun _ w'=>∃S1,S1.Perm (A1++B1)/\PW S1/\KpL [b] w15 w'/\aN w' b (P++(S1++(A2++(B2++Q)))),⟨fun g1=>⟨fun g2=>?_,fun g2=>?_⟩,fun g1=>?_⟩,?_⟩
   ·refine⟨(ih (P:=P) (A:=A1) (B:=B1) (Q:=A2++(B2++Q)) (by omega) hc21 (hf.at hk21) (by simp;omega) hb (by omega) (by omega) pA1 pB1 hx (by omega) (by omega)).mono ?_⟩
    rintro e w22 ⟨rfl,hk22,ys,hc22,S1,rfl,hp,hs⟩
    exact⟨rfl,_,hk22,S1,hp,hs,hk21.trans hk22,hc22⟩
   ·have h0:=bS (l:=B1) (by omega)
    subst h0
    exact⟨A1,by simp,pA1,hk21,by simpa using hc21⟩
   ·have h0:=bS (l:=A1) (by omega)
    subst h0
    exact⟨B1,by simp,pB1,hk21,by simpa using hc21⟩
   rintro w23 ⟨S1,hp1,hs1,hk23,hc23⟩
   have hl1:=hp1.length_eq
   simp only[List.length_append]at hl1
   have fin:∀{w':World} {S2:List RC},S2.Perm (A2++B2)->PW S2->KpL [b] w15 w'->aN w' b (P++(S1++(S2++Q)))->
    Dy w15 b (fun ys=>∃S',ys=P++(S'++Q)/\S'.Perm (A1++A2++(B1++B2))/\PW S') (.returned (.tuple #[])) w':=by
    intro w' S2 hp2 hs2 hk' hc'
    refine⟨rfl,hk',_,hc',S1++S2,by simp,(hp1.append hp2).trans ?_,ic.2 ⟨hs1,hs2,fun u hu v hv=>?_⟩⟩
    ·simp only[List.append_assoc]
     refine List.Perm.append_left A1 ?_
     rw[<-List.append_assoc,<-List.append_assoc]
     exact List.Perm.append_right B2 List.perm_append_comm
    ·rcases List.mem_append.1 (hp1.mem_iff.1 hu) with hu|hu<;>rcases List.mem_append.1 (hp2.mem_iff.1 hv) with hv|hv
     ·exact pA12 u hu v hv
     ·exact c12 u hu v hv
     ·exact c21 u hu v hv
     ·exact pB12 u hu v hv
   refine⟨fun g1=>⟨fun g2=>?_,fun g2=>?_⟩,fun g1=>?_⟩
   ·refine⟨(ih (P:=P++S1) (A:=A2) (B:=B2) (Q:=Q) (by omega) (by simpa using hc23) (hf.at hk23) (by simp;omega) hb (by omega) (by omega) pA2 pB2 (by simp;omega) (by omega) (by omega)).mono ?_⟩
    rintro e w24 ⟨rfl,hk24,ys,hc24,S2,rfl,hp,hs⟩
    exact⟨rfl,_,hk24,fin hp hs (hk23.trans hk24) (by simpa using hc24)⟩
   ·have h0:=bS (l:=B2) (by omega)
    subst h0
    exact fin (S2:=A2) (by simp) pA2 hk23 (by simpa using hc23)
   ·have h0:=bS (l:=A2) (by omega)
    subst h0
    exact fin (S2:=B2) (by simp) pB2 hk23 (by simpa using hc23)
end Go.Vc
namespace Go.Vc
open Go Go.Proofs
theorem fD{α:Type}(l:List α)(a m:Nat)(h:a+m<=l.length):∃P S Q,l=P++(S++Q)/\P.length=a/\S.length=m :=
 ⟨l.take a,(l.drop a).take m,(l.drop a).drop m,by rw[List.take_append_drop,List.take_append_drop],by simp;omega,by simp;omega⟩
set_option maxHeartbeats 1000000 in
theorem yG{w:World}{b:Nat}{xs:List RC}{f:FuncId}{fi ca:Array Value}{n c:Nat}(h:aN w b xs)(hf:rU w b f fi ca)(hn:n=xs.length)(hb:n<=1000000):
 Calls Zz 198 #[sK b n c,iv n,.func (.func f) fi ca] w (Dy w b fun ys=>ys.Perm xs/\PW ys):=by
 refine pg ⟨fun vs w'=>∃(a:Nat) (ys:List RC),vs=[iv (a:Int),iv ((a:Int)+20)]/\a<=n/\a%20=0/\KpL [b] w w'/\aN w' b ys/\ys.Perm xs/\tC 20 0 a ys,
  fun vs _=>match vs with|.int _ a::_=>n - a.toNat|_=>0,⟨0,xs,rfl,by omega,rfl,KpL.refl _ _,h,List.Perm.refl _,fun i j _ _ _ _ hj=>by omega⟩,?_⟩
 rintro n1 n2 w1 ⟨a,ys,hv,ha,ham,hk,hc,hp,hblk⟩
 simp only[List.cons.injEq,Value.int.injEq,true_and,and_true]at hv
 obtain⟨rfl,rfl⟩:=hv
 have hpl:=hp.length_eq
 refine⟨fun hle=>?_,fun hgt=>?_⟩
 ·obtain⟨P,S,Q,rfl,hP,hS⟩:=fD ys a 20 (by omega)
  refine⟨(kG hc (hf.at hk) (by omega) hb (x:=a) (y:=(a:Int)+20) (by omega) (by omega)).mono ?_⟩
  rintro e w2 ⟨rfl,hk2,zs,hc2,S',rfl,hp',hs'⟩
  refine⟨rfl,_,hk2,ae.2 (by omega),⟨a+20,_,rfl,by omega,by omega,hk.trans hk2,hc2,?_,?_⟩,by dsimp only;omega⟩
  ·exact(List.Perm.append_left P (List.Perm.append_right Q hp')).trans hp
  ·exact hblk.put hP hp'.length_eq (by omega) hs' fun i j h1 h2 h3=>kZ (by omega) ham h1 h2
 ·obtain⟨P,S,Q,rfl,hP,hS⟩:=fD ys a (n - a) (by omega)
  have hQ:=bS (l:=Q) (by simp at hpl;omega)
  subst hQ
  refine⟨(kG hc (hf.at hk) (by omega) hb (x:=a) (y:=(n:Int)) (by omega) (by omega)).mono ?_⟩
  rintro e w2 ⟨rfl,hk2,zs,hc2,S',rfl,hp',hs'⟩
  have hb20:tC 20 0 n (P++(S'++[])):=hblk.put hP hp'.length_eq (by omega) hs' fun i j h1 h2 h3=>kZ (by omega) ham h1 h2
  have hp2:(P++(S'++[])).Perm xs:=(List.Perm.append_left P (List.Perm.append_right [] hp')).trans hp
  refine⟨rfl,_,hk2,fun vs w'=>∃(s:Nat) (ys:List RC),vs=[iv (s:Int)]/\0<s/\s<=2000000/\KpL [b] w w'/\aN w' b ys/\ys.Perm xs/\tC s 0 n ys,fun vs _=>match vs with|.int _ a::_=>n - a.toNat|_=>0,
   ⟨20,_,rfl,by omega,by omega,hk.trans hk2,hc2,hp2,hb20⟩,?_⟩
  clear hc2 hb20 hp2 hp' hs' hblk hc hp hpl
  rintro n3 w4 ⟨s,ys,hv,hs0,hs1,hk4,hc4,hp4,hblk4⟩
  obtain rfl:=v1 hv
  refine⟨fun hlt=>⟨ae.2 (by omega),fun vs w'=>∃(a:Nat) (ys:List RC),vs=[iv (a:Int),iv ((a:Int)+2*s)]/\a<=n/\a%(2*s)=0/\KpL [b] w w'/\aN w' b ys/\ys.Perm xs/\tC (2*s) 0 a ys/\tC s a n ys,
   fun vs _=>match vs with|.int _ a::_=>n - a.toNat|_=>0,⟨0,ys,by simp,by omega,by simp,hk4,hc4,hp4,fun i j _ _ _ _ hj=>by omega,hblk4⟩,?_⟩,fun hge=>?_⟩
  ·rintro n4 n5 w5 ⟨a,ys,hv,ha,ham,hk5,hc5,hp5,hb5,hc5'⟩
   simp only[List.cons.injEq,Value.int.injEq,true_and,and_true]at hv
   obtain⟨rfl,rfl⟩:=hv
   have hpl:=hp5.length_eq
   have ham1:a%s=0:=by
    obtain⟨k,rfl⟩:=Nat.dvd_of_mod_eq_zero ham
    rw[Nat.mul_comm 2 s,Nat.mul_assoc]
    exact Nat.mul_mod_right _ _
   have ham2:(a+s)%s=0:=by rw[Nat.add_mod_right];exact ham1
   refine⟨fun hle=>⟨ae.2 (by omega),?_⟩,fun hgt=>⟨ae.2 (by omega),fun hm=>?_,fun hm=>?_⟩⟩
   ·obtain⟨P,S,Q,rfl,hP,hS⟩:=fD ys a (2*s) (by omega)
    obtain⟨A,B,rfl,hA⟩:=dG (l:=S) (n:=s) (by omega)
    have hB:B.length=s:=by simp at hS;omega
    have pA:PW A:=(show tC s a n (P++(A++(B++Q))) by simpa using hc5').seg hP (b:=a+s) (by omega) (Nat.le_refl _) (by omega) fun i h1 h2=>kH hs0 ham1 h1 h2
    have pB:PW B:=(show tC s a n ((P++A)++(B++Q)) by simpa using hc5').seg (a:=a+s) (by simp;omega) (b:=a+2*s) (by omega) (by omega) (by omega) fun i h1 h2=>kH hs0 ham2 h1 (by omega)
    refine⟨(mC (A.length+B.length) (P:=P) (A:=A) (B:=B) (Q:=Q) (Nat.le_refl _) (by simpa using hc5) (hf.at hk5) (by simp at hpl ⊢;omega) hb (by omega) (by omega) pA pB (x:=(a:Int)) (y:=(a:Int)+s) (z:=(a:Int)+2*s) (by omega) (by omega) (by omega)).mono ?_⟩
    rintro e w6 ⟨rfl,hk6,zs,hc6,S',rfl,hp',hs'⟩
    have hl':=hp'.length_eq
    refine⟨rfl,_,hk6,ae.2 (by omega),ae.2 (by omega),⟨a+2*s,_,by simp,by omega,by rw[Nat.add_mod_right];exact ham,hk5.trans hk6,hc6,?_,?_,?_⟩,by dsimp only;omega⟩
    ·exact(List.Perm.append_left P (List.Perm.append_right Q hp')).trans hp5
    ·exact hb5.put hP hl' (by omega) hs' fun i j h1 h2 h3=>kZ (by omega) ham h1 h2
    ·exact hc5'.rest hl' hP (by omega)
   ·obtain⟨P,S,Q,rfl,hP,hS⟩:=fD ys a (n - a) (by omega)
    have hQ:=bS (l:=Q) (by simp at hpl;omega)
    subst hQ
    obtain⟨A,B,rfl,hA⟩:=dG (l:=S) (n:=s) (by omega)
    have hB:B.length=n - a - s:=by simp at hS;omega
    have pA:PW A:=(show tC s a n (P++(A++(B++[]))) by simpa using hc5').seg hP (b:=a+s) (by omega) (Nat.le_refl _) (by omega) fun i h1 h2=>kH hs0 ham1 h1 h2
    have pB:PW B:=(show tC s a n ((P++A)++(B++[])) by simpa using hc5').seg (a:=a+s) (by simp;omega) (b:=n) (by omega) (by omega) (by omega) fun i h1 h2=>kH hs0 ham2 h1 (by omega)
    refine⟨(mC (A.length+B.length) (P:=P) (A:=A) (B:=B) (Q:=[]) (Nat.le_refl _) (by simpa using hc5) (hf.at hk5) (by simp at hpl ⊢;omega) hb (by omega) (by omega) pA pB (x:=(a:Int)) (y:=(a:Int)+s) (z:=(n:Int)) (by omega) (by omega) (by omega)).mono ?_⟩
    rintro e w6 ⟨rfl,hk6,zs,hc6,S',rfl,hp',hs'⟩
    have hl':=hp'.length_eq
    refine⟨rfl,_,hk6,ae.2 (by omega),⟨2*s,_,by rw[show(s:Int)*2=((2*s:Nat):Int) by omega],by omega,by omega,hk5.trans hk6,hc6,?_,?_⟩,by dsimp only;omega⟩
    ·exact(List.Perm.append_left P (List.Perm.append_right [] hp')).trans hp5
    ·exact hb5.put hP hl' (by omega) hs' fun i j h1 h2 h3=>kZ (by omega) ham h1 h2
   ·obtain⟨P,S,Q,rfl,hP,hS⟩:=fD ys a (n - a) (by omega)
    have pS:PW S:=hc5'.seg hP (b:=n) (by omega) (Nat.le_refl _) (by omega) fun i h1 h2=>kH hs0 ham1 h1 (by omega)
    refine⟨ae.2 (by omega),⟨2*s,_,by rw[show(s:Int)*2=((2*s:Nat):Int) by omega],by omega,by omega,hk5,hc5,hp5,?_⟩,by dsimp only;omega⟩
    exact hb5.put hP rfl (by omega) pS fun i j h1 h2 h3=>kZ (by omega) ham h1 h2
  ·have hpl:=hp4.length_eq
   refine⟨rfl,hk4,ys,hc4,hp4,List.pairwise_iff_getElem.2 fun i j hi hj hij=>?_⟩
   refine hblk4 i j _ _ (Nat.zero_le _) hij (by omega) ?_ (List.getElem?_eq_getElem hi) (List.getElem?_eq_getElem hj)
   rw[Nat.div_eq_of_lt (by omega),Nat.div_eq_of_lt (by omega)]
theorem oN{w:World}{b:Nat}{xs:List RC}{f:FuncId}{fi ca:Array Value}{n c:Nat}(h:aN w b xs)(hf:rU w b f fi ca)(hn:n=xs.length)(hb:n<=1000000):
 Calls Zz 167 #[sK b n c,.func (.func f) fi ca] w (Dy w b fun ys=>ys.Perm xs/\PW ys):=by
 refine jI ⟨(yG h hf hn hb).mono ?_⟩
 rintro e w1 ⟨rfl,hk,h⟩
 exact⟨rfl,_,hk,rfl,hk,h⟩
theorem oc{w:World}{f:FuncId}{fi ca:Array Value}:Calls Zz 167 #[.slice none 0 0,.func (.func f) fi ca] w (aA (.tuple #[]) w):=by
 have hi:∀{w:World},Calls Zz 210 #[.slice none 0 0,iv 0,iv 0,.func (.func f) fi ca] w (aA (.tuple #[]) w):=fun {w} =>
  kM ⟨ae.2 (by omega),fun vs w'=>vs=[iv 1]/\w'=w,fun _ _=>0,⟨rfl,rfl⟩,by
   rintro n1 w1 ⟨hv,rfl⟩
   obtain rfl:=v1 hv
   exact⟨fun h=>by simp at h,fun _=>⟨rfl,KpL.refl _ _⟩⟩⟩
 refine jI ⟨(show Calls Zz 198 #[.slice none 0 0,iv 0,.func (.func f) fi ca] w (aA (.tuple #[]) w) from ?_).mono ?_⟩
 ·refine pg ⟨fun vs w'=>vs=[iv 0,iv 20]/\w'=w,fun _ _=>0,⟨rfl,rfl⟩,?_⟩
  rintro n1 n2 w1 ⟨hv,rfl⟩
  simp only[List.cons.injEq,Value.int.injEq,true_and,and_true]at hv
  obtain⟨rfl,rfl⟩:=hv
  refine⟨fun h=>by simp at h,fun _=>⟨hi.mono ?_⟩⟩
  rintro e w2 ⟨rfl,hk⟩
  refine⟨rfl,_,hk,fun vs w'=>vs=[iv 20]/\w'=w2,fun _ _=>0,⟨rfl,rfl⟩,?_⟩
  rintro n3 w4 ⟨hv,rfl⟩
  obtain rfl:=v1 hv
  exact⟨fun h=>by simp at h,fun _=>⟨rfl,hk⟩⟩
 ·rintro e w1 ⟨rfl,hk⟩
  exact⟨rfl,_,hk,rfl,hk⟩
theorem sV(a1 a2:Option Addr)(n1 c1 n2 c2:Nat)(w:World):Calls Zz 137 #[.agg #[.slice a1 n1 c1,.slice a2 n2 c2]] w (aA (.slice a1 n1 c1) w):=AG fun _ _ _ hk=>⟨rfl,hk⟩
theorem xu{w:World}{b k:Nat}(hk:w.heap[k]?=some (.cells #[.func (.func 137) #[] #[]] 223 (0,0)))(hkb:k≠b):rU w b 168 #[] #[pK k]:=by
 refine⟨⟨_,_,Tryz.func168,rfl⟩,fun x y w1 hk1 hx hy=>?_⟩
 have hk':w1.heap[k]?=some (.cells #[.func (.func 137) #[] #[]] 223 (0,0)):=(hk1.blk k (ab hk) (by simpa using hkb)).trans hk
 obtain⟨b1,p1,q1,b2,p2,q2,hcx,hx1,hx2⟩:=hx.cell
 obtain⟨b3,p3,q3,b4,p4,q4,hcy,hy1,hy2⟩:=hy.cell
 simp only[RC.cs,List.cons.injEq,Value.slice.injEq,and_true]at hcx hcy
 obtain⟨⟨rfl,rfl,rfl⟩,rfl,rfl,rfl⟩:=hcx
 obtain⟨⟨rfl,rfl,rfl⟩,rfl,rfl,rfl⟩:=hcy
 refine Calls.mono (R:=aA (iv (aY x.c.at_ y.c.at_)) w1) (Ag hk' fun j1 hj1 j2 hj2=>⟨⟨_,_,Tryz.func137,rfl⟩,fun w2 hk2 hkn=>⟨(sV _ _ _ _ _ _ w2).mono ?_⟩⟩) fun _ _ h=>h
 rintro e w3 ⟨rfl,hk3⟩
 refine⟨_,_,_,rfl,[],hk3,⟨⟨by simp⟩,⟨by simp⟩,⟨by simp⟩⟩,fun hkn3=>⟨⟨ak hkn3.1 0 _ rfl,ak hkn3.2.2 0 _ rfl,trivial⟩,⟨_,_,Tryz.func137,rfl⟩,fun _=>⟨(sV _ _ _ _ _ _ w3).mono ?_⟩⟩⟩
 rintro e w4 ⟨rfl,hk4⟩
 have hk14:=(hk2.trans hk3).trans hk4
 refine⟨_,_,_,rfl,[],hk4,⟨⟨by simp⟩,⟨by simp⟩,⟨by simp⟩⟩,fun _=>⟨(iN (hx1.kp0 hk14) (hy1.kp0 hk14)).mono ?_⟩⟩
 rintro e w5 ⟨rfl,hk5⟩
 exact⟨_,rfl,hk5,fun _=>⟨rfl,hk14.trans hk5⟩⟩
end Go.Vc
namespace Go.Vc
open Go Go.Proofs
theorem bI.cells{M:List Nat}{w:World}{cs:List aR}{ad:Addr}{n c:Nat}(h:bI aC M w cs (some ad) n c):
 ∃b xs,ad=⟨b,0,none⟩/\xs.map RC.c=cs/\aN w b xs/\(∀x∈xs,R aC (b::M) w x.c x.cs)/\b∉M:=by
 obtain⟨b,arr,T,rfl,hbM,hb,hsz,hel⟩:=h.at_ ad rfl
 have hn:=h.len
 have hcap:=h.cap
 have hsz':arr.size=c*2:=hsz
 have key:∀m,m<=cs.length->∃xs:List RC,xs.map RC.c=cs.take m/\xs.flatMap RC.cs=arr.toList.take (m*2)/\∀x∈xs,R aC (b::M) w x.c x.cs:=by
  intro m
  induction m with
  |zero=>intro _;exact⟨[],by simp,by simp,by simp⟩
  |succ m ih =>
   intro hm
   obtain⟨xs,h1,h2,h3⟩:=ih (by omega)
   have hm':m<cs.length:=by omega
   obtain⟨cells,hR,hat⟩:=hel m cs[m] (List.getElem?_eq_getElem hm')
   obtain⟨a1,n1,c1,a2,n2,c2,rfl,_,_⟩:=R.cell (M:=b::M) (w:=w) hR
   have e0:=hat 0 _ rfl
   have e1:=hat 1 _ rfl
   have hz:aC.sz=2:=rfl
   rw[hz]at e0 e1
   simp only[Nat.zero_add,Nat.add_zero]at e0 e1
   refine⟨xs++[⟨a1,n1,c1,a2,n2,c2,cs[m]⟩],?_,?_,fun x hx=>?_⟩
   ·rw[List.map_append,h1,<-List.take_append_getElem hm'];rfl
   ·rw[List.flatMap_append,h2,show(m+1)*2=m*2+1+1 from by omega]
    have l0:=(List.getElem?_eq_some_iff.1 e0).1
    have l1:=(List.getElem?_eq_some_iff.1 e1).1
    rw[<-List.take_append_getElem l1,<-List.take_append_getElem l0,(List.getElem?_eq_some_iff.1 e0).2,(List.getElem?_eq_some_iff.1 e1).2]
    simp[RC.cs]
   ·rcases List.mem_append.1 hx with hx|hx
    ·exact h3 x hx
    ·simp at hx;subst hx;exact hR
 obtain⟨xs,h1,h2,h3⟩:=key cs.length (Nat.le_refl _)
 refine⟨b,xs,rfl,by rw[h1,List.take_length],⟨⟨arr.toList.drop (cs.length*2),T,?_⟩,fun x hx=>(h3 x hx).weak (by simp)⟩,h3,hbM⟩
 rw[h2,List.take_append_drop]
 simpa using hb
theorem aN.R{M:List Nat}{w:World}{b:Nat}{xs:List RC}(h:aN w b xs)(hR:∀x∈xs,Go.Vc.R aC M w x.c x.cs)(hM:b∉M){c:Nat}(hc:xs.length<=c)(hm:xs.length<=az):Go.Vc.R (au aC) M w (xs.map RC.c) [sK b xs.length c]:=by
 obtain⟨rest,T,hb⟩:=h.blk
 refine⟨_,_,by rw[List.length_map],by rw[List.length_map];exact hc,by rw[List.length_map];exact hm,fun _=>⟨b,0,_,T,_,rfl,⟨ab hb,hM⟩,hb,fun i x hx=>?_⟩⟩
 simp only[List.getElem?_map,Option.map_eq_some_iff]at hx
 obtain⟨r,hr,rfl⟩:=hx
 refine⟨r.cs,hR r (List.mem_of_getElem? hr),fun j v hv=>?_⟩
 have hg:=(h.get hr).1.at_ j v hv
 rw[al,al,bZ hb]at hg
 show(xs.flatMap RC.cs++rest).toArray.toList[0+i*2+j]?=_
 simpa using hg
theorem xD{M:List Nat}{w:World}{cs:List aR}{a:Option Addr}{n c:Nat}(h:bI aC M w cs a n c)(hb:n<=1000000):
 Calls Zz 136 #[.slice a n c,.func (.func 137) #[] #[]] w fun e w'=>e=.returned (.tuple #[])/\KpL (aj a) w w'/\∃cs':List aR,cs'.Perm cs/\cs'.Pairwise (fun x y=>aY x.at_ y.at_<=0)/\R (au aC) M w' cs' [.slice a n c]:=by
 refine yJ fun k hk w1 hw1 hkn=>?_
 have hA:=h.kp0 hw1
 cases ha:a with
 |none =>
  subst ha
  have h0:=h.nil rfl
  have h1:=h.cap
  have h2:=h.len
  have hcs:=bS (l:=cs) (by omega)
  subst hcs
  have:n=0:=by omega
  subst this h0
  refine⟨oc.mono ?_⟩
  rintro e w2 ⟨rfl,hk2⟩
  exact⟨rfl,[],hk2,⟨by simp⟩,fun _=>⟨rfl,(hw1.trans hk2).mono (by simp),[],List.Perm.refl _,List.Pairwise.nil,R.sl_nil _ _ _ _ _⟩⟩
 |some ad =>
  subst ha
  obtain⟨b,xs,rfl,hxs,hC,hR,hbM⟩:=hA.cells
  have hn:=h.len
  have hcap:=h.cap
  have hbl:b<w.heap.size:=(h.blk_lt b (by simp[aj])).1
  have hln:xs.length=cs.length:=by rw[<-hxs,List.length_map]
  refine⟨(oN hC (xu hkn (by omega)) (by omega) hb).mono ?_⟩
  rintro e w2 ⟨rfl,hk2,ys,hC2,hp,hs⟩
  have hlp:=hp.length_eq
  have hmx:az=140737488355328:=rfl
  refine⟨rfl,[b],hk2,⟨by simp;omega⟩,fun _=>⟨rfl,(hw1.mono (by simp)).trans hk2,ys.map RC.c,?_,?_,?_⟩⟩
  ·rw[<-hxs];exact hp.map _
  ·rw[List.pairwise_map];exact hs
  ·have:=hC2.R (M:=M) (c:=c) (fun x hx=>((hR x (hp.mem_iff.1 hx)).kp hk2 (by simp)).weak (by intro x hx;simp[hx])) hbM (by omega) (by omega)
   rw[show ys.length=n from by omega]at this
   exact this
theorem Bo:oe Zz 56 56 147 2 48:=bM (by kernel_rfl)
theorem Bm{M M1 M2 M3:List Nat}{w:World}{ds:List dI}{ats:List cI}{cells:List aR}{a1 a2 a3:Option Addr}{n1 c1 n2 c2 n3 c3:Nat}(hM:∀b∈M,b<w.heap.size)
 (h1:R (au bY) M1 w ds [.slice a1 n1 c1])(h2:R (au bw) M2 w ats [.slice a2 n2 c2])(h3:R (au aC) M3 w cells [.slice a3 n3 c3])(hd:ds.length<=1000)(ha:ats.length<=1000)(hc:cells.length<=4096)(hcl:∀c∈cells,c.at_.length<=1000/\c.vals.length<=1000):
 Calls Zz 135 #[.slice a1 n1 c1,.slice a2 n2 c2,.slice a3 n3 c3] w fun e w'=>∃b1 p1 q1 b2 p2 q2 b3 p3 q3,e=.returned (.agg #[.slice b1 p1 q1,.slice b2 p2 q2,.slice b3 p3 q3])/\KpL [] w w'/\
  R (au bY) (aj b3++M) w' ds [.slice b1 p1 q1]/\R (au bw) (aj b3++M) w' ats [.slice b2 p2 q2]/\bI aC M w' cells b3 p3 q3/\∀b∈aj b3,w.heap.size<=b:=by
 have hmx:az=140737488355328:=rfl
 obtain⟨rfl,_,_⟩:=h1.sl_len
 obtain⟨rfl,_,_⟩:=h2.sl_len
 obtain⟨rfl,_,_⟩:=h3.sl_len
 refine Bg fun k1 hk1 w1 hw1 hkn1=>?_
 have hM1:∀b∈k1::M,b<w1.heap.size:=by
  intro b hb
  rcases List.mem_cons.1 hb with rfl|hb
  ·exact ab hkn1
  ·exact Nat.lt_of_lt_of_le (hM b hb) hw1.size
 refine⟨(tz (M:=k1::M) hM1 (by omega) (h1.kp0 hw1)).mono ?_⟩
 rintro e w2 ⟨b1,p1,q1,rfl,hC1⟩
 refine⟨_,_,_,rfl,hC1.kpn,fun hkn2=>⟨(rS (M:=k1::M) (fun b hb=>Nat.lt_of_lt_of_le (hM1 b hb) hC1.kpn.size) (by omega) ((h2.kp0 hw1).kp0 hC1.kpn)).mono ?_⟩⟩
 rintro e w3 ⟨b2,p2,q2,rfl,hC2⟩
 have hw03:KpL [] w w3:=(hw1.trans hC1.kpn).trans hC2.kpn
 have l1:=hC1.acc.len
 have l2:=hC2.acc.len
 have r1:R (au bY) (k1::M) w3 ds [.slice b1 p1 q1]:=(hC1.acc.kp0 hC2.kpn).done (by omega)
 have r2:R (au bw) (k1::M) w3 ats [.slice b2 p2 q2]:=hC2.acc.done (by omega)
 refine⟨_,_,_,rfl,hC2.kpn,fun k6 hk6=>⟨fun vs w'=>∃(i:Nat) (a:Option Addr) (n c:Nat),vs=[iv (i:Int),.slice b1 p1 q1,.slice b2 p2 q2,.slice a n c]/\i<=cells.length/\KpL [] w w'/\k1<w'.heap.size/\k6<w'.heap.size/\
  R (au bY) (aj a++(k6::k1::M)) w' ds [.slice b1 p1 q1]/\R (au bw) (aj a++(k6::k1::M)) w' ats [.slice b2 p2 q2]/\bI aC (k6::k1::M) w' (cells.take i) a n c/\∀b∈aj a,w.heap.size<=b,
  fun vs _=>match vs with|.int _ i::_=>cells.length - i.toNat|_=>0,fun w4 hw4 hkn4=>?_,?_⟩⟩
 ·refine⟨0,none,0,0,rfl,by omega,hw03.trans hw4,ab hkn4.2,ab hkn4.1,?_,?_,bI.nil' _ ?_,by simp[aj]⟩
  ·exact r1.cons hw4 hk6
  ·exact r2.cons hw4 hk6
  ·intro b hb
   rcases List.mem_cons.1 hb with rfl|hb
   ·exact ab hkn4.1
   ·have:=hM1 b hb;have:=hC1.kpn.size;have:=hC2.kpn.size;have:=hw4.size;omega
 rintro n1 _ _ _ _ _ _ a n c w5 hkn5 ⟨i,_,_,_,hv,hi,hk5,hk1l,hk6l,g1,g2,hA,hnew⟩
 simp only[List.cons.injEq,Value.int.injEq,Value.slice.injEq,true_and,and_true]at hv
 obtain⟨rfl,⟨rfl,rfl,rfl⟩,⟨rfl,rfl,rfl⟩,rfl,rfl,rfl⟩:=hv
 constructor
 ·intro hlt
  have gi:i<cells.length:=by omega
  have hlA:=hA.len
  rw[List.length_take,Nat.min_eq_left hi]at hlA
  obtain⟨ad,cs,rfl,hv1,hld1,_,_⟩:=(h3.kp0 hk5).sl_get gi
  obtain⟨a6,p6,q6,a7,p7,q7,rfl,hx1,hx2⟩:=hv1.cell
  have hcl':=hcl cells[i] (List.getElem_mem gi)
  refine⟨ad,rfl,by omega,hlt,fun _=>⟨_,_,_,_,_,_,hld1,fun k17 hk17 w6 hk6' hkn6=>?_⟩⟩
  have hA6:=hA.kp0 hk6'
  have hK6:∀b∈aj a++(k6::k1::M),b<w6.heap.size:=by
   intro b hb
   rcases List.mem_append.1 hb with hb|hb
   ·exact(hA6.blk_lt b hb).1
   ·exact hA6.mlt b hb
  refine⟨(yk hK6 (hx1.kp0 hk6') (hx2.kp0 hk6') (by omega) (by omega)).mono ?_⟩
  rintro e w7 ⟨a8,p8,q8,a9,p9,q9,rfl,hk7,hRc⟩
  refine⟨_,_,_,_,_,_,rfl,hk7,fun k22 hk22 w8 hk8 hkn8=>?_⟩
  have hk58:=(hk6'.trans hk7).trans hk8
  have hA8:=hA.kp0 hk58
  have s58:=hk58.size
  have s67:=(hk6'.trans hk7).size
  have s6:=hk6'.size
  refine aD Bo hA8 hkn8.1 (hRc.kp0 hk8) (by omega) fun a' c' w9 hC=>⟨_,_,_,rfl,_,hC.kp,⟨⟨fun hm=>?_⟩,⟨fun hm=>?_⟩,hA8.out (by simp),hA8.out (by simp)⟩,ae.2 (by omega),fun w10 hk10 _=>⟨⟨i+1,a',_,c',rfl,by omega,?_,?_,?_,?_,?_,?_,?_⟩,?_⟩⟩
  ·have:=(hA.blk_lt _ hm).1;omega
  ·have:=(hA.blk_lt _ hm).1;omega
  ·have hkw9:KpL [] w w9:=(hk5.trans hk58).more hC.kp fun x hx=>.inr (hnew x hx)
   exact hkw9.more hk10 fun x hx=>by simp at hx;subst hx;exact .inr (by have:=hw03.size;omega)
  ·have:=hC.kp.size;have:=hk10.size;omega
  ·have:=hC.kp.size;have:=hk10.size;omega
  ·exact(hC.data (g1.kp0 hk58)).kp hk10 (by simp)
  ·exact(hC.data (g2.kp0 hk58)).kp hk10 (by simp)
  ·rw[<-List.take_append_getElem gi]
   exact hC.acc.kp hk10 (by simp)
  ·intro b hb
   rcases hC.own b hb with h|h
   ·exact hnew b h
   ·have:=hk5.size;omega
  ·show cells.length - ((i:Int)+1).toNat<cells.length - (i:Int).toNat
   omega
 ·intro hge w11 hk11 hkn11
  have hie:i=cells.length:=by omega
  subst hie
  rw[List.take_length]at hA
  refine⟨_,_,_,_,_,_,_,_,_,rfl,hk5.more hk11 (fun x hx=>by simp at hx;subst hx;exact .inr hk1),(g1.kp hk11 (by simp)).weak ?_,(g2.kp hk11 (by simp)).weak ?_,(hA.kp hk11 (by simp)).weak ?_,hnew⟩ <;>
  ·intro b hb
   simp at hb ⊢
   first
    |(rcases hb with hb|hb<;>simp[hb])
    |simp[hb]
theorem lG{ds:List dI}{ats:List cI}{c:aR}(h:cT ds ats c=0):c.at_.length=ds.length/\c.vals.length=ats.length:=by
 unfold cT at h
 split at h
 ·cases h
 ·omega
theorem fH{ds:List dI}{ats:List cI}(h:aV ds ats=0):1<=ds.length/\ds.length<=4/\1<=ats.length/\ats.length<=6:=by
 unfold aV at h
 split at h
 ·contradiction
 ·rename_i h1
  have h1:=Classical.not_not.1 h1
  unfold bX at h1
  split at h1
  ·cases h1
  ·split at h
   ·cases h
   ·omega
def bq(l:List aR):Prop:=l.Pairwise fun x y=>aY x.at_ y.at_<0
set_option maxHeartbeats 1000000 in
theorem wM{M M1 M2 M3:List Nat}{w:World}{ds:List dI}{ats:List cI}{cells:List aR}{a1 a2 a3:Option Addr}{n1 c1 n2 c2 n3 c3:Nat}(hM:∀b∈M,b<w.heap.size)
 (h1:R (au bY) M1 w ds [.slice a1 n1 c1])(h2:R (au bw) M2 w ats [.slice a2 n2 c2])(h3:R (au aC) M3 w cells [.slice a3 n3 c3])(hs:aV ds ats=0)(hc:cells.length<=4096)(hcl:∀c∈cells,cT ds ats c=0)(hnd:(cells.map (·.at_)).Nodup):
 Calls Zz 69 #[.slice a1 n1 c1,.slice a2 n2 c2,.slice a3 n3 c3] w fun e w'=>∃b1 p1 q1 b2 p2 q2 b3 p3 q3 cells',e=.returned (.tuple #[.agg #[.slice b1 p1 q1,.slice b2 p2 q2,.slice b3 p3 q3],iv 0])/\KpL [] w w'/\
  cells'.Perm cells/\bq cells'/\R (au bY) M w' ds [.slice b1 p1 q1]/\R (au bw) M w' ats [.slice b2 p2 q2]/\R (au aC) M w' cells' [.slice b3 p3 q3]:=by
 have hmx:az=140737488355328:=rfl
 have hsl:=fH hs
 obtain⟨rfl,_,_⟩:=h3.sl_len
 refine C7 fun k1 hk1 w1 hw1 hkn1=>⟨(pd (h1.kp0 hw1) (h2.kp0 hw1)).mono ?_⟩
 rw[hs]
 rintro e w2 ⟨rfl,hw2⟩
 have hw02:=hw1.trans hw2
 refine⟨_,rfl,hw2,fun hc=>absurd rfl hc,fun _=>⟨fun hc=>by omega,fun _=>⟨fun vs w'=>∃i:Nat,vs=[iv (i:Int),.slice none 0 0,.slice none 0 0,.slice none 0 0]/\i<=cells.length/\KpL [] w w'/\k1<w'.heap.size,fun vs _=>match vs with|.int _ i::_=>cells.length - i.toNat|_=>0,
  fun hkn2=>⟨0,rfl,by omega,hw02,ab hkn2⟩,?_⟩⟩⟩
 rintro n2' _ _ _ _ _ _ _ _ _ w5 hkn5 ⟨i,hv,hi,hk5,hk1l⟩
 simp only[List.cons.injEq,Value.int.injEq,Value.slice.injEq,true_and,and_true]at hv
 obtain⟨rfl,⟨rfl,rfl,rfl⟩,⟨rfl,rfl,rfl⟩,rfl,rfl,rfl⟩:=hv
 constructor
 ·intro hlt
  have gi:i<cells.length:=by omega
  obtain⟨ad,cs,rfl,hv1,hld1,_,_⟩:=(h3.kp0 hk5).sl_get gi
  obtain⟨a6,p6,q6,a7,p7,q7,rfl,hx1,hx2⟩:=hv1.cell
  refine⟨ad,rfl,by omega,hlt,fun _=>⟨_,_,_,_,_,_,hld1,fun k12 hk12 w6 hk6 _=>⟨(ww ((h1.kp0 hk5).kp0 hk6) ((h2.kp0 hk5).kp0 hk6) (hx1.kp0 hk6) (hx2.kp0 hk6)).mono ?_⟩⟩⟩
  rw[hcl cells[i] (List.getElem_mem gi)]
  rintro e w7 ⟨rfl,hk7⟩
  refine⟨_,rfl,hk7,fun hc=>absurd rfl hc,fun _=>⟨ae.2 (by omega),fun _=>⟨⟨i+1,rfl,by omega,(hk5.trans hk6).trans hk7,by have:=(hk6.trans hk7).size;omega⟩,?_⟩⟩⟩
  show cells.length - ((i:Int)+1).toNat<cells.length - (i:Int).toNat
  omega
 ·intro hge _
  have hMk:∀b∈k1::M,b<w5.heap.size:=by
   intro b hb
   rcases List.mem_cons.1 hb with rfl|hb
   ·exact hk1l
   ·exact Nat.lt_of_lt_of_le (hM b hb) hk5.size
  refine⟨(Bm (M:=k1::M) hMk (h1.kp0 hk5) (h2.kp0 hk5) (h3.kp0 hk5) (by omega) (by omega) hc (fun c hc=>by have:=lG (hcl c hc);omega)).mono ?_⟩
  rintro e w9 ⟨b1,p1,q1,b2,p2,q2,b3,p3,q3,rfl,hk9,r1,r2,hA,hnew⟩
  refine⟨_,_,_,_,_,_,_,_,_,rfl,hk9,fun k19 hk19 w10 hk10 hkn10=>⟨(xD (hA.kp0 hk10) (by rw[hA.len];omega)).mono ?_⟩⟩
  rintro e w11 ⟨rfl,hk11,cells',hp,hso,hR⟩
  have hpl:=hp.length_eq
  have hk1b:k1∉aj b3:=fun hm=>(hA.blk_lt _ hm).2 (by simp)
  have hk0w11:KpL [] w w11:=((hk5.trans hk9).trans hk10).more hk11 fun x hx=>.inr (by have:=hnew x hx;have:=hk5.size;omega)
  have r1':R (au bY) (k1::M) w11 ds [.slice b1 p1 q1]:=((r1.kp0 hk10).kp hk11 (by intro x hx;simp[hx])).weak (by intro x hx;exact List.mem_append_right _ hx)
  have r2':R (au bw) (k1::M) w11 ats [.slice b2 p2 q2]:=((r2.kp0 hk10).kp hk11 (by intro x hx;simp[hx])).weak (by intro x hx;exact List.mem_append_right _ hx)
  have hsorted:bq cells':=by
   have hnd':(cells'.map (·.at_)).Nodup:=(hp.map _).nodup_iff.2 hnd
   have hpn:cells'.Pairwise (fun x y=>x.at_≠y.at_):=List.pairwise_map.1 hnd'
   refine(hso.and hpn).imp fun {x y} h=>?_
   have:=h.1
   have h2:aY x.at_ y.at_≠0:=fun hz=>h.2 (bB.1 hz)
   omega
  have hlen3:p3=cells'.length:=hR.sl_len.1
  subst hlen3
  have hlc:cells'.length<=4096:=by omega
  refine⟨rfl,_,hk11,⟨⟨fun hm=>?_⟩,⟨hk1b⟩⟩,fun vs w'=>∃i:Nat,vs=[iv (i:Int),.slice none 0 0,.slice none 0 0,.slice none 0 0]/\1<=i/\(i<=cells'.length∨i=1)/\KpL [] w11 w'/\k1<w'.heap.size,fun vs _=>match vs with|.int _ i::_=>cells'.length+1 - i.toNat|_=>0,
   fun hkn=>⟨1,rfl,by omega,.inr rfl,KpL.refl _ _,ab hkn.2⟩,?_⟩
  ·have:=(hA.blk_lt _ hm).1;omega
  rintro n4 _ _ _ _ _ _ _ _ _ w12 hkn12 ⟨j,hv,hj1,hj2,hk12,hk1l'⟩
  simp only[List.cons.injEq,Value.int.injEq,Value.slice.injEq,true_and,and_true]at hv
  obtain⟨rfl,⟨rfl,rfl,rfl⟩,⟨rfl,rfl,rfl⟩,rfl,rfl,rfl⟩:=hv
  constructor
  ·intro hlt
   have gj:j<cells'.length:=by omega
   have gj':j - 1<cells'.length:=by omega
   obtain⟨ad,cs,had,hv1,hld1,_,_,hpt1⟩:=(hR.kp0 hk12).sl_get2 gj'
   subst had
   obtain⟨a6,p6,q6,a7,p7,q7,rfl,hx1,hx2⟩:=hv1.cell
   obtain⟨ad2,cs2,had2,hv2,hld2,_,_,hpt2⟩:=(hR.kp0 hk12).sl_get2 gj
   simp only[Option.some.injEq]at had2
   subst had2
   obtain⟨a8,p8,q8,a9,p9,q9,rfl,hy1,hy2⟩:=hv2.cell
   refine⟨ae.2 (by omega),ad,rfl,by omega,by omega,a6,p6,q6,?_,ad,rfl,by omega,by omega,a8,p8,q8,hpt2 0 [_] rfl,fun w13 hk13 _=>⟨(iN (hx1.kp0 hk13) (hy1.kp0 hk13)).mono ?_⟩⟩
   ·rw[show((j:Int) - 1).toNat=j - 1 from by omega];exact hpt1 0 [_] rfl
   rintro e w14 ⟨rfl,hk14⟩
   have hneg:aY cells'[j - 1].at_ cells'[j].at_<0:=List.pairwise_iff_getElem.1 hsorted (j - 1) j gj' gj (by omega)
   refine⟨_,rfl,hk14,fun hz=>by omega,fun _=>⟨ae.2 (by omega),fun _=>⟨⟨j+1,rfl,by omega,.inl (by omega),(hk12.trans hk13).trans hk14,by have:=(hk13.trans hk14).size;omega⟩,?_⟩⟩⟩
   show cells'.length+1 - ((j:Int)+1).toNat<cells'.length+1 - (j:Int).toNat
   omega
  ·intro hge' w16 hk16 _
   have hk1116:KpL [k1] w11 w16:=(hk12.mono (by simp)).trans hk16
   exact⟨_,_,_,_,_,_,_,_,_,cells',rfl,hk0w11.more hk1116 (fun x hx=>by simp at hx;subst hx;exact .inr hk1),hp,hsorted,(r1'.kp hk1116 (by simp)).weak (by intro x hx;simp[hx]),(r2'.kp hk1116 (by simp)).weak (by intro x hx;simp[hx]),
    (hR.kp hk1116 (by simp)).weak (by intro x hx;simp[hx])⟩
end Go.Vc
namespace Go.Vc
open Go Go.Proofs
open Go.Value Go.Ending Go.IntKind
set_option maxRecDepth 100000
section
variable{w:World}{R:Ending->World->Prop}
theorem Ar{aa:Option Addr}{an ac:Nat}
 (h :
 ∃(P1:LP)(P2:LM),P1 [iv 0] w/\∀n1 w1,P1 [iv n1] w1->(n1<(↑an:Int)->Ad aa n1 an fun d1=>∃n2,ao w1 (d1.add (n1.toNat*1)) [iv n2]/\(n2≠0->R (returned (iv n2)) w1)/\(¬n2≠0->ar i64 (n1+1)/\P1 [iv (n1+1)] w1/\P2 [iv (n1+1)] w1<P2 [iv n1] w1))/\(¬n1<(↑an:Int)->R (returned (iv 0)) w1)):Calls Zz 120 #[slice aa an ac] w R :=
 fz { loops:=[⟨3,[8],[2,5]++rg 9 8,[]⟩] } [av (.slice aa an ac)] Tryz.func120 h
theorem AX{xa xp xq xr xs:Int}{ya yp yq yr ys:Int}
 (h :
 ∀k1,w.heap.size<=k1->∀k2,w.heap.size<=k2->∃a1 k3 k4,Pv Zz (Instr.sliceAt 141 (pointer (some (Addr.mk k1 (0+1) none))) none none none) (slice a1 k3 k4)/\∃a2 k5 k6,Pv Zz (Instr.sliceAt 141 (pointer (some (Addr.mk k2 (0+1) none))) none none none) (slice a2 k5 k6)/\∀w1,KpL [] w w1->Hb w1 k2 #[iv ya,iv yp,iv yq,iv yr,iv ys] 143/\Hb w1 k1 #[iv xa,iv xp,iv xq,iv xr,iv xs] 143->ag Zz 121 #[iv xa,iv ya] w1 fun e1 w2 =>
 ∃n1,e1=returned (iv n1)/\KpL [] w1 w2/\(Hb w2 k2 #[iv ya,iv yp,iv yq,iv yr,iv ys] 143/\Hb w2 k1 #[iv xa,iv xp,iv xq,iv xr,iv xs] 143->ag Zz 122 #[slice a1 k3 k4,slice a2 k5 k6] w2 fun e2 w3 =>
 ∃n2,e2=returned (iv n2)/\KpL [] w2 w3/\∀k7,w3.heap.size<=k7->∀w4,KpL [] w3 w4->Hb w4 k7 #[iv n1,iv n2] 3/\Hb w4 k2 #[iv ya,iv yp,iv yq,iv yr,iv ys] 143/\Hb w4 k1 #[iv xa,iv xp,iv xq,iv xr,iv xs] 143->ag Zz 120 #[sK k7 2 2] w4 fun e3 w5 =>
 ∃n3,e3=returned (iv n3)/\KpL [] w4 w5/\(Hb w5 k7 #[iv n1,iv n2] 3/\Hb w5 k2 #[iv ya,iv yp,iv yq,iv yr,iv ys] 143/\Hb w5 k1 #[iv xa,iv xp,iv xq,iv xr,iv xs] 143->R (returned (iv n3)) w5))):Calls Zz 119 #[agg #[iv xa,iv xp,iv xq,iv xr,iv xs],agg #[iv ya,iv yp,iv yq,iv yr,iv ys]] w R :=
 fz { all:=true } [.a (.agg [.v (iv xa),.v (iv xp),.v (iv xq),.v (iv xr),.v (iv xs)]),.a (.agg [.v (iv ya),.v (iv yp),.v (iv yq),.v (iv yr),.v (iv ys)])] Tryz.func119 h
theorem Dz{x:Int}{aa:Option Addr}{an ac:Nat}
 (h :
 Ev Zz (Instr.alloc 143 true (tuple #[])) w fun y1 w1 =>
 ∃d1,y1=pointer (some d1)/\∃l1,KpL l1 w w1/\Ev Zz (Instr.alloc 143 true (tuple #[])) w1 fun y2 w2 =>
 ∃d2,y2=pointer (some d2)/\∃l2,KpL l2 w1 w2/\(∃l3,ao w2 d2 l3/\l3.length=5)/\aq w2 d2 5/\∀w3,w3=bL w2 d2 [iv x,iv 0,iv 0,iv 0,iv 0] 0->∃a1 k1 k2,Pv Zz (Instr.sliceAt 141 (pointer (some (d2.add 1))) none none none) (slice a1 k1 k2)/\Ev Zz (Builtin.copy_ #[78,78] 3 #[slice a1 k1 k2,slice aa an ac]) w3 fun y3 w4 =>
 ∃n1,y3=iv n1/\∃l4,KpL l4 w3 w4/\∃n2 n3 n4 n5 n6,ao w4 d2 [iv n2,iv n3,iv n4,iv n5,iv n6]/\(∃l5,ao w4 d1 l5/\l5.length=5)/\aq w4 d1 5/\∀w5,w5=bL w4 d1 [iv n2,iv n3,iv n4,iv n5,iv n6] 0->∃n7 n8 n9 n10 n11,ao w5 d1 [iv n7,iv n8,iv n9,iv n10,iv n11]/\R (returned (agg #[iv n7,iv n8,iv n9,iv n10,iv n11])) w5):Calls Zz 78 #[iv x,slice aa an ac] w R :=
 fz { lim:=4 } [av (iv x),av (.slice aa an ac)] Tryz.func78 h
end
end Go.Vc
namespace Go.Vc
open Go Go.Proofs Go.Shelf
def E0:Ren where
 f:=fun x=>match x with
  |6=>118|15=>159|14=>158|28=>195|29=>196|20=>187|21=>188|22=>189|23=>190|24=>191|25=>192|26=>193|27=>194|46=>205|47=>206|48=>207|49=>208|50=>209|57=>215
  |n=>n
 t:=fun x=>match x with
  |22=>205|24=>143|25=>210|3=>3|39=>196|0=>0|53=>265|55=>119|4=>4|46=>258|45=>257|50=>262|5=>5|9=>9|66=>271|70=>274|76=>280|77=>281
  |n=>n
 g:=fun n=>n
theorem cA{P:Program}{f:FuncId}{fn B:Func}(h:P.funcs[f]?=some fn)(hn:(fn.name == "runtime.NumGoroutine")=false)(he:fn={ B with name:=fn.name }):Bears P f B:=⟨fn.name,hn,h.trans (congrArg some he)⟩
theorem AE:SlLaysF0.n6 Zz E0 where
 mixed:=by kernel_rfl
 f6:=cA Tryz.func118 (by decide) (by kernel_rfl)
 f14:=cA Tryz.func158 (by decide) (by kernel_rfl)
 f15:=Tryz.func159.trans (by kernel_rfl)
 f20:=cA Tryz.func187 (by decide) (by kernel_rfl)
 f21:=cA Tryz.func188 (by decide) (by kernel_rfl)
 f22:=cA Tryz.func189 (by decide) (by kernel_rfl)
 f23:=cA Tryz.func190 (by decide) (by kernel_rfl)
 f24:=cA Tryz.func191 (by decide) (by kernel_rfl)
 f25:=cA Tryz.func192 (by decide) (by kernel_rfl)
 f26:=cA Tryz.func193 (by decide) (by kernel_rfl)
 f27:=cA Tryz.func194 (by decide) (by kernel_rfl)
 f28:=Tryz.func195.trans (by kernel_rfl)
 f29:=Tryz.func196.trans (by kernel_rfl)
 f46:=cA Tryz.func205 (by decide) (by kernel_rfl)
 f47:=Tryz.func206.trans (by kernel_rfl)
 f48:=Tryz.func207.trans (by kernel_rfl)
 f49:=cA Tryz.func208 (by decide) (by kernel_rfl)
 f50:=cA Tryz.func209 (by decide) (by kernel_rfl)
 f57:=cA Tryz.func215 (by decide) (by kernel_rfl)
 t0:=Tryz.underlying0
 a0:=Tryz.isAgg0
 z0:=Tryz.sizeOf0
 v0:=Tryz.zeroValue0
 t3:=Tryz.underlying3
 a3:=Tryz.isAgg3
 z3:=Tryz.sizeOf3
 v3:=Tryz.zeroValue3
 t4:=Tryz.underlying4
 a4:=Tryz.isAgg4
 z4:=Tryz.sizeOf4
 v4:=Tryz.zeroValue4
 t5:=Tryz.underlying5
 a5:=Tryz.isAgg5
 z5:=Tryz.sizeOf5
 v5:=Tryz.zeroValue5
 t9:=Tryz.underlying9
 a9:=Tryz.isAgg9
 z9:=Tryz.sizeOf9
 v9:=Tryz.zeroValue9
 t22:=Tryz.underlying205
 a22:=Tryz.isAgg205
 z22:=Tryz.sizeOf205
 v22:=Tryz.zeroValue205
 t25:=Tryz.underlying210
 a25:=Tryz.isAgg210
 z25:=Tryz.sizeOf210
 v25:=Tryz.zeroValue210
 t39:=Tryz.underlying196
 a39:=Tryz.isAgg196
 z39:=Tryz.sizeOf196
 v39:=Tryz.zeroValue196
 t45:=Tryz.underlying257
 a45:=Tryz.isAgg257
 z45:=Tryz.sizeOf257
 v45:=Tryz.zeroValue257
 t46:=Tryz.underlying258
 a46:=Tryz.isAgg258
 z46:=Tryz.sizeOf258
 v46:=Tryz.zeroValue258
 t50:=Tryz.underlying262
 a50:=Tryz.isAgg262
 z50:=Tryz.sizeOf262
 v50:=Tryz.zeroValue262
 t53:=Tryz.underlying265
 a53:=Tryz.isAgg265
 z53:=Tryz.sizeOf265
 v53:=Tryz.zeroValue265
 t55:=Tryz.underlying119
 a55:=Tryz.isAgg119
 z55:=Tryz.sizeOf119
 v55:=Tryz.zeroValue119
 t66:=Tryz.underlying271
 a66:=Tryz.isAgg271
 z66:=Tryz.sizeOf271
 v66:=Tryz.zeroValue271
 t70:=Tryz.underlying274
 a70:=Tryz.isAgg274
 z70:=Tryz.sizeOf274
 v70:=Tryz.zeroValue274
 t76:=Tryz.underlying280
 a76:=Tryz.isAgg280
 z76:=Tryz.sizeOf280
 v76:=Tryz.zeroValue280
 t77:=Tryz.underlying281
 a77:=Tryz.isAgg281
 z77:=Tryz.sizeOf281
 v77:=Tryz.zeroValue281
def Pl.ok(p:Pl):Prop:=ar .i64 p.a/\ar .i64 p.p0/\ar .i64 p.p1/\ar .i64 p.p2/\ar .i64 p.p3
def Pl.co(p:Pl):List Int:=[p.p0,p.p1,p.p2,p.p3]
def C3:Ty Pl:=nD 5 Pl.cells Pl.ok (fun _ _=>rfl) (by
 intro x v hv
 simp only[Pl.cells,List.mem_cons,List.not_mem_nil,or_false]at hv
 rcases hv with rfl|rfl|rfl|rfl|rfl<;>rfl)
theorem R.pl{M:List Nat}{w:World}{v:Pl}{cs:List Value}(h:R C3 M w v cs):cs=v.cells/\v.ok:=h
def iK(p q:Pl):Int:=aY (p.a::p.co) (q.a::q.co)
theorem uA{p q:Pl}:iK p q=0↔p=q:=by
 unfold iK
 rw[bB]
 obtain⟨a,b,c,d,e⟩:=p
 obtain⟨a',b',c',d',e'⟩:=q
 simp[Pl.co]
theorem R.co{w:World}{b:Nat}{p:Pl}{T:TypeId}(hb:w.heap[b]?=some (.cells p.cells.toArray T (0,0)))(hp:p.ok):R (au (tI .i64)) [] w p.co [.slice (some ⟨b,1,none⟩) 4 4]:=by
 refine⟨_,_,rfl,Nat.le_refl _,by show(4:Nat)<=140737488355328;omega,fun _=>⟨b,1,_,T,_,rfl,⟨ab hb,by simp⟩,hb,fun i x hx=>⟨[iv x],⟨rfl,?_⟩,fun j v hv=>?_⟩⟩⟩
 ·have:=List.mem_of_getElem? hx
  simp only[Pl.co,List.mem_cons,List.not_mem_nil,or_false]at this
  rcases this with rfl|rfl|rfl|rfl
  ·exact hp.2.1
  ·exact hp.2.2.1
  ·exact hp.2.2.2.1
  ·exact hp.2.2.2.2
 ·cases j with
  |succ j=>simp at hv
  |zero =>
   simp at hv
   subst hv
   have hi:i<4:=(List.getElem?_eq_some_iff.1 hx).1
   show p.cells.toArray.toList[1+i*1+0]?=_
   rw[show 1+i*1+0=i+1 from by omega]
   match i,hi with
   |0,_=>simp[Pl.co]at hx;subst hx;rfl
   |1,_=>simp[Pl.co]at hx;subst hx;rfl
   |2,_=>simp[Pl.co]at hx;subst hx;rfl
   |3,_=>simp[Pl.co]at hx;subst hx;rfl
theorem lT{ad:Addr}:Pv Zz (Instr.sliceAt 141 (.pointer (some ad)) none none none) (.slice (some (ad.add (0*1))) 4 4):=by
 have:=iF (P:=Zz) (at_:=141) ry (sz:=1) s3 (ad:=ad) (l:=0) (h:=4) (lo:=none) (hi:=none) (.inr ⟨rfl,rfl⟩) (.inr ⟨rfl,rfl⟩) (by omega) (by omega)
 simpa using this
theorem BJ{M:List Nat}{w:World}{x y:Int}{a:Option Addr}{n c:Nat}(h:R (au (tI .i64)) M w [x,y] [.slice a n c]):Calls Zz 120 #[.slice a n c] w (aA (iv (if x≠0 then x else y)) w):=by
 obtain⟨hn,_,_⟩:=h.sl_len
 have hn':n=2:=hn
 subst hn'
 refine Ar ⟨fun vs w'=>∃i:Nat,vs=[iv (i:Int)]/\i<=2/\KpL [] w w'/\(1<=i->x=0)/\(2<=i->y=0),fun vs _=>match vs with|[.int _ i]=>2 - i.toNat|_=>0,⟨0,rfl,by omega,KpL.refl _ _,by omega,by omega⟩,?_⟩
 rintro n1 w1 ⟨i,hv,hi,hk,h1,h2⟩
 obtain rfl:=v1 hv
 constructor
 ·intro hlt
  have g:i<[x,y].length:=by show i<2;omega
  obtain⟨ad,cs,rfl,hv1,hld1,_,_⟩:=(h.kp0 hk).sl_get g
  obtain⟨rfl,hok1⟩:=hv1.intD
  refine⟨ad,rfl,by omega,by omega,_,hld1,fun hne=>?_,fun hz=>?_⟩
  ·match i,g,h1,h2,hne with
   |0,_,_,_,hne=>exact⟨by rw[if_pos (show x≠0 from hne)];rfl,hk⟩
   |1,_,h1,_,hne=>exact⟨by rw[if_neg (by simp[h1 (by omega)])];rfl,hk⟩
  ·have hz:=Classical.not_not.1 hz
   refine⟨ae.2 (by omega),⟨i+1,rfl,by omega,hk,fun _=>?_,fun _=>?_⟩,?_⟩
   ·match i,g,h1,hz with
    |0,_,_,hz=>exact hz
    |1,_,h1,_=>exact h1 (by omega)
   ·match i,g,hz with
    |0,_,_=>omega
    |1,_,hz=>exact hz
   ·show 2 - ((i:Int)+1).toNat<2 - (i:Int).toNat
    omega
 ·intro hge
  have:i=2:=by omega
  subst this
  exact⟨by rw[if_neg (by simp[h1 (by omega)]),h2 (by omega)],hk⟩
theorem AA(p q:Pl)(hp:p.ok)(hq:q.ok)(w:World):Calls Zz 119 #[.agg p.cells.toArray,.agg q.cells.toArray] w (aA (iv (iK p q)) w):=by
 refine AX fun k1 hk1 k2 hk2=>⟨_,_,_,lT,_,_,_,lT,fun w1 hw1 hkn=>⟨(mq p.a q.a w1).mono ?_⟩⟩
 rintro e w2 ⟨rfl,hw2⟩
 refine⟨_,rfl,hw2,fun hkn2=>⟨(nh (R.co (p:=p) hkn2.2 hp) (R.co (p:=q) hkn2.1 hq)).mono ?_⟩⟩
 rintro e w3 ⟨rfl,hw3⟩
 refine⟨_,rfl,hw3,fun k7 hk7 w4 hw4 hkn4=>?_⟩
 have hrng:∀x:Int,(x = -1∨x=0∨x=1)->ar .i64 x:=fun x hx=>ae.2 (by omega)
 have hR:R (au (tI .i64)) [] w4 [eN p.a q.a,aY p.co q.co] [sK k7 2 2]:=by
  have hb:w4.heap[k7]?=some (.cells ([eN p.a q.a,aY p.co q.co].map (Value.int .i64)++[]).toArray 3 (0,0)):=hkn4.1
  exact R.ofBlk (c:=2) hb (by simp) (by
   intro x hx
   simp only[List.mem_cons,List.not_mem_nil,or_false]at hx
   rcases hx with rfl|rfl
   ·exact hrng _ (rC _ _)
   ·exact hrng _ (iH _ _)) (Nat.le_refl 2) (by show(2:Nat)<=140737488355328;omega)
 refine⟨(BJ hR).mono ?_⟩
 rintro e w5 ⟨rfl,hw5⟩
 exact⟨_,rfl,hw5,fun _=>⟨rfl,(((hw1.trans hw2).trans hw3).trans hw4).trans hw5⟩⟩
def be(a:Int)(at_:List Int):Pl:=⟨a,at_.getD 0 0,at_.getD 1 0,at_.getD 2 0,at_.getD 3 0⟩
theorem rj{M:List Nat}{w:World}{x:Int}{xs:List Int}{a:Option Addr}{n c:Nat}(h:R (au (tI .i64)) M w xs [.slice a n c])(hn:xs.length<=4):
 Calls Zz 78 #[iv x,.slice a n c] w (aA (.agg (be x xs).cells.toArray) w):=by
 obtain⟨rfl,hn2,hn3⟩:=h.sl_len
 have hz:∃zv,(∀w,(zeroValue 143).run Zz w=.ok zv w)/\zv.cells=[Value.int .i64 0,iv 0,iv 0,iv 0,iv 0].toArray:=⟨_,fun w=>ky (z:=.agg #[iv 0,iv 0,iv 0,iv 0,iv 0]) (by kernel_rfl) w,rfl⟩
 refine Dz (iZ hz fun w1 hb1 hw1=>⟨_,rfl,_,hw1,iZ hz fun w2 hb2 hw2=>⟨_,rfl,_,hw2,⟨[iv 0,iv 0,iv 0,iv 0,iv 0],ak hb2 0 _ rfl,rfl⟩,bE hb2,?_⟩⟩)
 rintro w3 rfl
 have hb3:=cL (off:=0) (l:=[iv x,iv 0,iv 0,iv 0,iv 0]) hb2 (by simp)
 have hk3:KpL [w1.heap.size] w2 (bL w2 ⟨w1.heap.size,0,none⟩ [iv x,iv 0,iv 0,iv 0,iv 0] 0):=cK w2 ⟨w1.heap.size,0,none⟩ _
 generalize hS:bL w2 ⟨w1.heap.size,0,none⟩ [iv x,iv 0,iv 0,iv 0,iv 0] 0=w3 at hb3 hk3 ⊢
 have hs1:=hw1.size
 have hl1:=ab hb1
 have hl2:=ab hb2
 have hw03:KpL [] w w3:=(hw1.trans hw2).more hk3 (by intro y hy;simp at hy;subst hy;exact .inr hs1)
 have hR3:R (au (tI .i64)) [w1.heap.size] w3 xs [.slice a xs.length c]:=(h.weak (M':=[]) (by simp)).step hw03 (by simp) (by intro y hy;simp at hy;subst hy;exact .inr hs1)
 refine⟨_,_,_,lT,?_⟩
 have elI:Dj Zz 78 3 1 8:=zm.el
 refine jy (M:=[w1.heap.size]) elI (off:=0+1+0*1) (arr:=[iv x,iv 0,iv 0,iv 0,iv 0]) hb3 (by simp[tI]) hR3 fun w4 ly hfl hb4 hk4=>⟨_,rfl,_,hk4,?_⟩
 have hly:=eW hfl
 rw[Nat.min_eq_left hn,List.take_length]at hly
 subst hly
 have harr:([Value.int .i64 x,iv 0,iv 0,iv 0,iv 0].take (0+1+0*1)++(xs.map (Value.int .i64)++[Value.int .i64 x,iv 0,iv 0,iv 0,iv 0].drop (0+1+0*1+(xs.map (Value.int .i64)).length)))=(be x xs).cells:=by
  match xs,hn with
  |[],_=>rfl
  |[_],_=>rfl
  |[_,_],_=>rfl
  |[_,_,_],_=>rfl
  |[_,_,_,_],_=>rfl
 rw[harr]at hb4
 have hne:w.heap.size≠w1.heap.size:=by omega
 have hb14:=(hk4.blk _ (Nat.lt_of_lt_of_le hl1 (Nat.le_trans hw2.size hk3.size)) (by simpa using hne)).trans ((hk3.blk _ (Nat.lt_of_lt_of_le hl1 hw2.size) (by simpa using hne)).trans ((hw2.blk _ hl1 (by simp)).trans hb1))
 refine⟨(be x xs).a,(be x xs).p0,(be x xs).p1,(be x xs).p2,(be x xs).p3,ak hb4 0 _ rfl,⟨[iv 0,iv 0,iv 0,iv 0,iv 0],ak hb14 0 _ rfl,rfl⟩,bE hb14,?_⟩
 rintro w5 rfl
 have hb5:=cL (off:=0) (l:=(be x xs).cells) hb14 (by simp[Pl.cells])
 refine⟨(be x xs).a,(be x xs).p0,(be x xs).p1,(be x xs).p2,(be x xs).p3,ak hb5 0 _ (by rfl),rfl,?_⟩
 refine(hw03.more hk4 (by intro y hy;simp at hy;subst hy;exact .inr hs1)).more (cK _ ⟨w.heap.size,0,none⟩ _) (by intro y hy;simp at hy;subst hy;exact .inr (Nat.le_refl _))
end Go.Vc
namespace Go.Vc
open Go Go.Proofs Go.Shelf Go.RowKit
open Go.Sort (HoldsK flatK size_flatK get_flatK)
theorem CS{w w':World}(k:KpL [] w w'):∃q os',w'=Go.Sort.grow (w.drewN q) os':=by
 refine⟨w'.drawn - w.drawn,w'.heap.extract w.heap.size w'.heap.size,?_⟩
 have hh:w'.heap=w.heap++w'.heap.extract w.heap.size w'.heap.size:=by
  apply Array.ext_getElem?
  intro i
  by_cases hi:i<w.heap.size
  ·rw[Array.getElem?_append_left hi]
   exact k.blk i hi (by simp)
  ·rw[Array.getElem?_append_right (by omega),Array.getElem?_extract]
   have hs:=k.size
   by_cases hi2:i<w'.heap.size
   ·rw[if_pos (by omega)]
    congr 1;omega
   ·rw[if_neg (by omega),Array.getElem?_eq_none (by omega)]
 have hd:=k.drawn
 obtain⟨h1,t1,d1,o1,u1⟩:=w
 obtain⟨h2,t2,d2,o2,u2⟩:=w'
 have e1:=k.os
 have e2:=k.tape
 have e3:=k.output
 simp only at e1 e2 e3 hh hd
 subst e1 e2 e3
 show World.mk _ _ _ _ _=World.mk _ _ _ _ _
 congr 1
 exact(Nat.add_sub_cancel' hd).symm
abbrev mR:={ p:Pl // p.ok }
instance plInh:Inhabited mR:=⟨⟨⟨0,0,0,0,0⟩,by refine⟨?_,?_,?_,?_,?_⟩<;>exact ae.2 (by simp)⟩⟩
def mR.cells(p:mR):List Value:=p.1.cells
def mR.cmp(p q:mR):Int:=iK p.1 q.1
theorem EI:Go.Sort.SWO (ltOf mR.cmp) where
 irrefl x:=by
  unfold ltOf mR.cmp
  rw[uA.2 rfl];rfl
 trans x y z h1 h2:=by
  unfold ltOf mR.cmp iK at *
  simp only[decide_eq_true_eq]at *
  have:=eF (Int.le_of_lt h1) (Int.le_of_lt h2)
  rcases Int.lt_or_eq_of_le this with h|h
  ·exact h
  ·exfalso
   have e:=bB.1 h
   rw[e]at h1
   rw[cz]at h1
   omega
 ntrans x y z h1 h2:=by
  unfold ltOf mR.cmp iK at *
  simp only[decide_eq_false_iff_not]at *
  intro h
  rw[cz]at h1 h2 h
  have:=eF (x:=z.1.a::z.1.co) (y:=y.1.a::y.1.co) (z:=x.1.a::x.1.co) (by omega) (by omega)
  omega
theorem CY{ps:List Pl}(h:∀p∈ps,p.ok):∃ds:List mR,ds.map (·.1)=ps:=⟨ps.pmap (fun p h=>⟨p,h⟩) h,by simp[List.map_pmap]⟩
theorem bI.pls{M:List Nat}{w:World}{ps:List Pl}{ad:Addr}{n c:Nat}(h:bI C3 M w ps (some ad) n c):
 ∃b arr T,ad=⟨b,0,none⟩/\b∉M/\w.heap[b]?=some (.cells arr T (0,0))/\arr.size=c*5/\(∀p∈ps,p.ok)/\∀(i:Nat) (p:Pl),ps[i]?=some p->∀(j:Nat) (v:Value),p.cells[j]?=some v->arr[i*5+j]?=some v:=by
 obtain⟨b,arr,T,rfl,hbM,hb,hsz,hel⟩:=h.at_ ad rfl
 refine⟨b,arr,T,rfl,hbM,hb,hsz,fun p hp=>?_,fun i p hp j v hv=>?_⟩
 ·obtain⟨i,hi,rfl⟩:=List.getElem_of_mem hp
  obtain⟨cs,⟨_,h2⟩,_⟩:=hel i ps[i] (List.getElem?_eq_getElem hi)
  exact h2
 ·obtain⟨cs,⟨rfl,_⟩,h3⟩:=hel i p hp
  have:=h3 j v hv
  have hz:C3.sz=5:=rfl
  rw[hz,Nat.zero_add]at this
  simpa using this
set_option maxHeartbeats 1000000 in
theorem yS{M:List Nat}{w:World}{ps:List Pl}{a:Option Addr}{n c:Nat}(h:bI C3 M w ps a n c)(hn:n<=1000000):
 Calls Zz 118 #[.slice a n c,.func (.func 119) #[] #[]] w fun e w'=>e=.returned (.tuple #[])/\KpL (aj a) w w'/\∃ps':List Pl,ps'.Perm ps/\ps'.Pairwise (fun x y=>iK x y<=0)/\R (au C3) M w' ps' [.slice a n c]:=by
 have hlen:=h.len
 have hcap:=h.cap
 have hmx:az=140737488355328:=rfl
 cases ha:a with
 |none =>
  subst ha
  have h0:=h.nil rfl
  have hps:=bS (l:=ps) (by omega)
  subst hps
  have:n=0:=by omega
  subst this h0
  have:=AnyF.slices_SortFunc_none AE none 0 (.func (.func 119) #[] #[]) w
  change Calls Zz 118 _ _ _ at this
  refine this.mono ?_
  rintro e w' ⟨rfl,rfl⟩
  exact⟨rfl,KpL.refl _ _,[],List.Perm.refl _,List.Pairwise.nil,R.sl_nil _ _ _ _ _⟩
 |some ad =>
  subst ha
  obtain⟨b,arr,T,rfl,hbM,hb,hsz,hok,hat⟩:=h.pls
  obtain⟨ds,rfl⟩:=CY hok
  rw[List.length_map]at hlen
  subst hlen
  have hbl:=ab hb
  have hH:HoldsK mR.cells 5 w b 0 ds.toArray:=by
   intro j hj
   rw[size_flatK]at hj
   have hj':j<ds.length*5:=by simpa using hj
   rw[get_flatK _ _ _ _ hj]
   have hi:j / 5<ds.length:=by omega
   have hcell:=hat (j / 5) (ds[j / 5]).1 (by simp[hi]) (j%5) ((ds[j / 5]).1.cells[j%5]'(by show j%5<5;omega)) (by rw[List.getElem?_eq_getElem])
   have hd:ds.toArray[j / 5]! = ds[j / 5]:=by simp[hi]
   have e2:(ds[j / 5].cells)[j%5]! = (ds[j / 5]).1.cells[j%5]'(by show j%5<5;omega):=by
    show((ds[j / 5]).1.cells)[j%5]! = _
    rw[getElem!_pos]
   constructor
   ·rw[hd,e2,bZ hb,Nat.zero_add]
    have ej:j / 5*5+j%5=j:=by omega
    rw[ej]at hcell
    exact hcell
   ·unfold World.frozen?
    simp only[hb]
    simp
  have hcmp:CmpLays Zz 119 #[] mR.cells 5 mR.cmp b 0 ds.toArray.size w:=by
   intro m os dk _ x y
   refine Calls.mono (R:=aA (iv (iK x.1 y.1)) (sortWorldK mR.cells 5 w b 0 m dk os)) ?_ ?_
   ·have:=AA x.1 y.1 x.2 y.2 (sortWorldK mR.cells 5 w b 0 m dk os)
    rw[Array.append_empty]
    exact this
   ·rintro e w' ⟨rfl,hk⟩
    exact⟨rfl,CS hk⟩
  have eg:∀args w,(callFunc 119 args).run Zz w=.ok (.enter 119 args) w:=enters_of Tryz.func119 (by decide) rfl
  have hcon:=AnyQ.slices_SortFunc AE 5 Tryz.isAgg143 Tryz.sizeOf143 mR.cells (fun _=>rfl) (fun x v hv=>by
   simp only[mR.cells,Pl.cells,List.mem_cons,List.not_mem_nil,or_false]at hv
   rcases hv with rfl|rfl|rfl|rfl|rfl<;>rfl) mR.cmp EI 119 #[] b 0 c ds.toArray w eg hcmp hH hbl (by simp;omega)
  change Calls Zz 118 _ _ _ at hcon
  have hsd:ds.toArray.size=ds.length:=by simp
  rw[hsd]at hcon
  refine hcon.mono ?_
  rintro e w' ⟨rfl,d',m,os,hp,hs,rfl⟩
  obtain⟨hps,_,hpp⟩:=hp
  have hds:d'.size=ds.length:=by rw[hps];simp
  have hperm:d'.toList.Perm ds:=by
   have e1:(d'.extract 0 ds.length).toList=d'.toList:=by rw[<-hds];simp
   have e2:(ds.toArray.extract 0 ds.length).toList=ds:=by simp
   rw[e1,e2]at hpp
   exact hpp
  have hbw:(sortWorldK mR.cells 5 w b 0 m d' os).heap[b]?=some (.cells (Go.Sort.putCells id 0 (flatK mR.cells 5 d') arr) T (0,0)):=by
   show((w.heap.modify b (Go.Sort.onCells (Go.Sort.putCells id 0 (flatK mR.cells 5 d'))))++os)[b]?=_
   rw[Array.getElem?_append_left (by simpa using hbl),Array.getElem?_modify,if_pos rfl,hb]
   rfl
  have hkp:KpL [b] w (sortWorldK mR.cells 5 w b 0 m d' os):=by
   refine⟨rfl,rfl,rfl,Nat.le_add_right _ _,?_,fun x hx hn=>?_⟩
   ·show w.heap.size<=((w.heap.modify b (Go.Sort.onCells (Go.Sort.putCells id 0 (flatK mR.cells 5 d'))))++os).size
    simp
   ·show((w.heap.modify b (Go.Sort.onCells (Go.Sort.putCells id 0 (flatK mR.cells 5 d'))))++os)[x]?=_
    simp only[List.mem_singleton]at hn
    rw[Array.getElem?_append_left (by simpa using hx),Array.getElem?_modify,if_neg (Ne.symm hn)]
  refine⟨rfl,hkp,d'.toList.map (·.1),hperm.map _,?_,?_⟩
  ·rw[List.pairwise_map]
   refine List.pairwise_iff_getElem.2 fun i j hi hj hij=>?_
   have hi':i<d'.size:=by simpa using hi
   have hj':j<d'.size:=by simpa using hj
   have:=hs i j (Nat.zero_le _) hij (by omega)
   rw[getElem!_pos d' j hj',getElem!_pos d' i hi']at this
   unfold ltOf mR.cmp iK at this
   simp only[decide_eq_false_iff_not]at this
   rw[cz]at this
   simp only[Array.getElem_toList]
   unfold iK
   omega
  ·have hl':(d'.toList.map (·.1)).length=ds.length:=by simp[hds]
   refine⟨_,c,by rw[hl'],by rw[hl'];exact hcap,by rw[hl'];omega,fun _=>⟨b,0,_,T,_,rfl,⟨ab hbw,hbM⟩,hbw,fun i p hi=>?_⟩⟩
   simp only[List.getElem?_map,Option.map_eq_some_iff]at hi
   obtain⟨q,hq,rfl⟩:=hi
   refine⟨q.1.cells,⟨rfl,q.2⟩,fun j v hv=>?_⟩
   have hi':i<d'.size:=by have:=(List.getElem?_eq_some_iff.1 hq).1;simpa using this
   have hj:j<5:=(List.getElem?_eq_some_iff.1 hv).1
   have hqi:d'[i]! = q:=by rw[getElem!_pos d' i hi'];have:=(List.getElem?_eq_some_iff.1 hq).2;simpa using this
   have hz:C3.sz=5:=rfl
   rw[hz]
   show(Go.Sort.putCells id 0 (flatK mR.cells 5 d') arr).toList[0+i*5+j]?=_
   unfold Go.Sort.putCells
   rw[Array.getElem?_toList,Array.getElem?_mapIdx]
   have hlt:0+i*5+j<arr.size:=by omega
   rw[Array.getElem?_eq_getElem hlt,Option.map_some,if_pos (by rw[size_flatK];omega),Nat.sub_zero,get_flatK _ _ _ _ (by omega)]
   rw[show(0+i*5+j) / 5=i from by omega,show(0+i*5+j)%5=j from by omega,hqi]
   show some (id (q.1.cells)[j]!)=some v
   rw[getElem!_pos q.1.cells j hj]
   simp only[id]
   rw[<-hv]
   exact(List.getElem?_eq_getElem (show j<q.1.cells.length from hj)).symm
end Go.Vc
namespace Go.Vc
open Go Go.Proofs
open Go.Value Go.Ending Go.IntKind
set_option maxRecDepth 100000
section
variable{w:World}{R:Ending->World->Prop}
theorem B5{r:Nat}{x:Int}
 (h :
 ∃a1 k1 k2,ao w ((Addr.mk r 0 none).add 0) [slice a1 k1 k2]/\∃n1,Pv Zz (Builtin.min_ #[(3:Nat),(3:Nat)] (3:Nat) #[iv x,iv (↑k1:Int)]) (iv n1)/\∃a2 k3 k4,ao w ((Addr.mk r 0 none).add 0) [slice a2 k3 k4]/\∃a3 k5 k6,Pv Zz (Instr.sliceAt 33 (slice a2 k3 k4) none (some (iv n1)) none) (slice a3 k5 k6)/\∃a4 k7 k8,ao w ((Addr.mk r 0 none).add 0) [slice a4 k7 k8]/\∃a5 k9 k10,Pv Zz (Instr.sliceAt 33 (slice a4 k7 k8) (some (iv n1)) none none) (slice a5 k9 k10)/\(∃l1,ao w ((Addr.mk r 0 none).add 0) l1/\l1.length=1)/\aq w ((Addr.mk r 0 none).add 0) 1/\∀w1,w1=bL w ((Addr.mk r 0 none).add 0) [slice a5 k9 k10] 0->R (returned (slice a3 k5 k6)) w1):Calls Zz 161 #[pK r,iv x] w R :=
 fz {} [av (pK r),av (iv x)] Tryz.func161 h
theorem Bw{r:Nat}
 (h :
 ag Zz 161 #[pK r,iv 1] w fun e1 w1 =>
 ∃a1 k1 k2,e1=returned (slice a1 k1 k2)/\∃l1,KpL l1 w w1/\((0:Int)<(↑k1:Int)->∃d1,a1=some d1/\(0:Int)<=(0:Int)/\(0:Int)<(↑k1:Int)/\∃n1,ao w1 (d1.add (Int.toNat 0*1)) [int u8 n1]/\R (returned (int u8 n1)) w1)/\(¬(0:Int)<(↑k1:Int)->R (returned (int u8 0)) w1)):Calls Zz 128 #[pK r] w R :=
 fz { muts:=[161] } [av (pK r)] Tryz.func128 h
theorem ut{r:Nat}
 (h :
 ∃(P1:LP)(P2:LM),P1 [int u64 0,iv 0] w/\∀n1 n2 w1,P1 [int u64 n1,iv n2] w1->(n2<64->ag Zz 128 #[pK r] w1 fun e1 w2 =>
 ∃n3,e1=returned (int u8 n3)/\∃l1,KpL l1 w1 w2/\ar u64 (aX BinOp.and u8 n3 127)/\0<=n2/\(n3<128->R (returned (int u64 (aX BinOp.or u64 n1 (u64.wrap (aX BinOp.and u8 n3 127*2 ^ Min.min n2.toNat u64.bits))))) w2)/\(¬n3<128->P1 [int u64 (aX BinOp.or u64 n1 (u64.wrap (aX BinOp.and u8 n3 127*2 ^ Min.min n2.toNat u64.bits))),iv (i64.wrap (n2+7))] w2/\P2 [int u64 (aX BinOp.or u64 n1 (u64.wrap (aX BinOp.and u8 n3 127*2 ^ Min.min n2.toNat u64.bits))),iv (i64.wrap (n2+7))] w2<P2 [int u64 n1,iv n2] w1))/\(¬n2<64->R (returned (int u64 n1)) w1)):Calls Zz 131 #[pK r] w R :=
 fz { loops:=[⟨3,[3,4],rg 5 16,[]⟩],muts:=[128],wrap:=true } [av (pK r)] Tryz.func131 h
theorem yI{r:Nat}
 (h :
 ag Zz 131 #[pK r] w fun e1 w1 =>
 ∃n1,e1=returned (int u64 n1)/\∃l1,KpL l1 w w1/\∃a1 k1 k2,ao w1 ((Addr.mk r 0 none).add 0) [slice a1 k1 k2]/\∃n2,Pv Zz (Builtin.min_ #[(119:Nat),(119:Nat)] (119:Nat) #[int u64 n1,int u64 (u64.wrap (↑k1:Int))]) (int u64 n2)/\R (returned (iv (i64.wrap n2))) w1):Calls Zz 125 #[pK r] w R :=
 fz { muts:=[131] } [av (pK r)] Tryz.func125 h
theorem uF{r:Nat}
 (h :
 ag Zz 131 #[pK r] w fun e1 w1 =>
 ∃n1,e1=returned (int u64 n1)/\∃l1,KpL l1 w w1/\R (returned (iv (aX BinOp.xor i64 (i64.wrap (n1.fdiv (↑((2:Nat) ^ (1:Nat)):Int))) (i64.wrap ((0:Int) - i64.wrap (aX BinOp.and u64 n1 (1:Int))))))) w1):Calls Zz 127 #[pK r] w R :=
 fz { muts:=[131],wrap:=true } [av (pK r)] Tryz.func127 h
theorem zV{r:Nat}
 (h :
 ag Zz 125 #[pK r] w fun e1 w1 =>
 ∃n1,e1=returned (iv n1)/\∃l1,KpL l1 w w1/\ag Zz 161 #[pK r,iv n1] w1 fun e2 w2 =>
 ∃a1 k1 k2,e2=returned (slice a1 k1 k2)/\∃l2,KpL l2 w1 w2/\Ev Zz (convert 33 9 (slice a1 k1 k2)) w2 fun y1 w3 =>
 ∃s1,y1=string s1/\∃l3,KpL l3 w2 w3/\R (returned (string s1)) w3):Calls Zz 126 #[pK r] w R :=
 fz { muts:=[125,161] } [av (pK r)] Tryz.func126 h
theorem vq{r:Nat}
 (h :
 ag Zz 125 #[pK r] w fun e1 w1 =>
 ∃n1,e1=returned (iv n1)/\∃l1,KpL l1 w w1/\∃(P1:LP)(P2:LM),P1 [slice none 0 0,iv 0] w1/\∀a1 k1 k2 n2 w2,P1 [slice a1 k1 k2,iv n2] w2->(n2<n1->ag Zz 128 #[pK r] w2 fun e2 w3 =>
 ∃n3,e2=returned (int u8 n3)/\∃l2,KpL l2 w2 w3/\ar i64 n3/\∀k3,w3.heap.size<=k3->(n3=3->∀w4,KpL [] w3 w4->Hb w4 k3 #[iv n3,iv 0,iv 0,string (ByteArray.mk #[])] 161->ag Zz 126 #[pK r] w4 fun e3 w5 =>
 ∃s1,e3=returned (string s1)/\∃l3,KpL l3 w4 w5/\af k3 l3/\∀k4,w5.heap.size<=k4->∀w6,KpL [k3] w5 w6->Hb w6 k4 #[iv n3,iv 0,iv 0,string s1] 161/\Hb w6 k3 #[iv n3,iv 0,iv 0,string s1] 161->Ev Zz (Builtin.append_ #[79,79] 79 #[slice a1 k1 k2,sK k4 1 1]) w6 fun y1 w7 =>
 ∃a2 k5 k6,y1=slice a2 k5 k6/\∃l4,KpL l4 w6 w7/\(af k4 l4/\af k3 l4)/\ar i64 (n2+1)/\(Hb w7 k4 #[iv n3,iv 0,iv 0,string s1] 161/\Hb w7 k3 #[iv n3,iv 0,iv 0,string s1] 161->P1 [slice a2 k5 k6,iv (n2+1)] w7/\P2 [slice a2 k5 k6,iv (n2+1)] w7<P2 [slice a1 k1 k2,iv n2] w2))/\(¬n3=3->(n3=2->∀w8,KpL [] w3 w8->Hb w8 k3 #[iv n3,iv 0,iv 0,string (ByteArray.mk #[])] 161->ag Zz 127 #[pK r] w8 fun e4 w9 =>
 ∃n4,e4=returned (iv n4)/\∃l5,KpL l5 w8 w9/\af k3 l5/\∀w10,KpL [k3] w9 w10->Hb w10 k3 #[iv n3,iv n4,iv 0,string (ByteArray.mk #[])] 161->ag Zz 131 #[pK r] w10 fun e5 w11 =>
 ∃n5,e5=returned (int u64 n5)/\∃l6,KpL l6 w10 w11/\af k3 l6/\∀k7,w11.heap.size<=k7->∀w12,KpL [k3] w11 w12->Hb w12 k7 #[iv n3,iv n4,iv (i64.wrap n5),string (ByteArray.mk #[])] 161/\Hb w12 k3 #[iv n3,iv n4,iv (i64.wrap n5),string (ByteArray.mk #[])] 161->Ev Zz (Builtin.append_ #[79,79] 79 #[slice a1 k1 k2,sK k7 1 1]) w12 fun y2 w13 =>
 ∃a3 k8 k9,y2=slice a3 k8 k9/\∃l7,KpL l7 w12 w13/\(af k7 l7/\af k3 l7)/\ar i64 (n2+1)/\(Hb w13 k7 #[iv n3,iv n4,iv (i64.wrap n5),string (ByteArray.mk #[])] 161/\Hb w13 k3 #[iv n3,iv n4,iv (i64.wrap n5),string (ByteArray.mk #[])] 161->P1 [slice a3 k8 k9,iv (n2+1)] w13/\P2 [slice a3 k8 k9,iv (n2+1)] w13<P2 [slice a1 k1 k2,iv n2] w2))/\(¬n3=2->∀w14,KpL [] w3 w14->Hb w14 k3 #[iv n3,iv 0,iv 0,string (ByteArray.mk #[])] 161->ag Zz 128 #[pK r] w14 fun e6 w15 =>
 ∃n6,e6=returned (int u8 n6)/\∃l8,KpL l8 w14 w15/\af k3 l8/\ar i64 n6/\∀k10,w15.heap.size<=k10->∀w16,KpL [k3] w15 w16->Hb w16 k10 #[iv n3,iv n6,iv 0,string (ByteArray.mk #[])] 161/\Hb w16 k3 #[iv n3,iv n6,iv 0,string (ByteArray.mk #[])] 161->Ev Zz (Builtin.append_ #[79,79] 79 #[slice a1 k1 k2,sK k10 1 1]) w16 fun y3 w17 =>
 ∃a4 k11 k12,y3=slice a4 k11 k12/\∃l9,KpL l9 w16 w17/\(af k10 l9/\af k3 l9)/\ar i64 (n2+1)/\(Hb w17 k10 #[iv n3,iv n6,iv 0,string (ByteArray.mk #[])] 161/\Hb w17 k3 #[iv n3,iv n6,iv 0,string (ByteArray.mk #[])] 161->P1 [slice a4 k11 k12,iv (n2+1)] w17/\P2 [slice a4 k11 k12,iv (n2+1)] w17<P2 [slice a1 k1 k2,iv n2] w2))))/\(¬n2<n1->R (returned (slice a1 k1 k2)) w2)):Calls Zz 132 #[pK r] w R :=
 fz { loops:=[⟨3,[3,7],[4]++rg 8 30,[]⟩],muts:=[125,128,126,127,131],all:=true } [av (pK r)] Tryz.func132 h
end
end Go.Vc
namespace Go.Vc
open Go Go.Proofs
def cg(N:List Nat)(w:World)(r:Nat)(bs:List Int):Prop:=∃a n c T,w.heap[r]?=some (.cells #[.slice a n c] T (0,0))/\R (au (tI .u8)) (r::N) w bs [.slice a n c]
theorem cg.lt{N:List Nat}{w:World}{r:Nat}{bs:List Int}(h:cg N w r bs):r<w.heap.size:=by obtain⟨_,_,_,_,h,_⟩:=h;exact ab h
theorem cg.step{N N' F:List Nat}{w w':World}{r:Nat}{bs:List Int}(h:cg N w r bs)(k:KpL F w w')(hr:r∉F)(hs:∀b∈F,b∈N∨w.heap.size<=b)(hn:∀b∈N',b∈N∨w.heap.size<=b):cg N' w' r bs:=by
 obtain⟨a,n,c,T,h1,h2⟩:=h
 refine⟨a,n,c,T,(k.blk r (ab h1) hr).trans h1,(au (tI .u8)).mono h2 fun b hb=>⟨⟨Nat.lt_of_lt_of_le hb.1 k.size,fun hm=>?_⟩,k.blk b hb.1 fun hm=>?_⟩⟩
 ·rcases List.mem_cons.1 hm with rfl|hm
  ·exact hb.2 (by simp)
  ·rcases hn b hm with h|h
   ·exact hb.2 (List.mem_cons_of_mem _ h)
   ·have:=hb.1;omega
 ·rcases hs b hm with h|h
  ·exact hb.2 (List.mem_cons_of_mem _ h)
  ·have:=hb.1;omega
theorem cg.kp0{N:List Nat}{w w':World}{r:Nat}{bs:List Int}(h:cg N w r bs)(k:KpL [] w w'):cg N w' r bs:=h.step k (by simp) (by simp) fun b hb=>.inl hb
theorem tn{N:List Nat}{w:World}{r:Nat}{l rest:List Int}(h:cg N w r (l++rest)){x:Int}(hx:x=l.length):
 Calls Zz 161 #[pK r,iv x] w fun e w'=>∃a n c,e=.returned (.slice a n c)/\KpL [r] w w'/\R (au (tI .u8)) (r::N) w' l [.slice a n c]/\cg N w' r rest:=by
 obtain⟨a,n,c,T,h1,h2⟩:=h
 obtain⟨hn,hc,hm⟩:=h2.sl_len
 have hmx:az=140737488355328:=rfl
 rw[List.length_append]at hn
 have hld:ao w ((⟨r,0,none⟩:Addr).add 0) [.slice a n c]:=by rw[al];exact ak h1 0 _ rfl
 have hmin:min x (n:Int)=(l.length:Int):=by omega
 have s1:=h2.sub 0 l.length (by omega) (by omega)
 have s2:=h2.sub l.length n (by omega) (Nat.le_refl _)
 rw[List.drop_zero,Nat.sub_zero,List.take_append_of_le_length (Nat.le_refl _),List.take_length]at s1
 rw[List.drop_append_of_le_length (Nat.le_refl _),List.drop_length,List.nil_append,List.take_of_length_le (by omega)]at s2
 refine B5 ⟨_,_,_,hld,(l.length:Int),by have:=lk (P:=Zz) (k:=.i64) (x:=x) (y:=n) (at_:=#[3,3]) (ty:=3);rw[hmin]at this;exact this,_,_,_,hld,_,_,_,dq fE (l:=0) (h:=l.length) (.inr ⟨rfl,rfl⟩) (.inl rfl) (by omega) (by omega),_,_,_,hld,
  _,_,_,dq fE (l:=l.length) (h:=n) (.inl rfl) (.inr ⟨rfl,rfl⟩) (by omega) (by omega),⟨_,hld,rfl⟩,by rw[al];exact bE h1,?_⟩
 rintro w1 rfl
 rw[al]
 have hk:KpL [r] w (bL w ⟨r,0+0,none⟩ [.slice (if c=l.length then a else a.map (·.add (l.length*1))) (n - l.length) (c - l.length)] 0):=cK w ⟨r,0+0,none⟩ _
 have hb:=cL (off:=0) (l:=[.slice (if c=l.length then a else a.map (·.add (l.length*1))) (n - l.length) (c - l.length)]) h1 (by simp)
 exact⟨_,_,_,rfl,hk,s1.kp hk (by simp),⟨_,_,_,T,hb,s2.kp hk (by simp)⟩⟩
theorem i7{N:List Nat}{w:World}{r:Nat}{x:Int}{rest:List Int}(h:cg N w r (x::rest)):
 Calls Zz 128 #[pK r] w fun e w'=>e=.returned (.int .u8 x)/\KpL [r] w w'/\cg N w' r rest/\ar .u8 x:=by
 refine Bw ⟨(tn (l:=[x]) (x:=1) h rfl).mono ?_⟩
 rintro e w1 ⟨a,n,c,rfl,hk,hR,hD⟩
 obtain⟨hn,_,_⟩:=hR.sl_len
 have hn':n=1:=hn
 subst hn'
 obtain⟨ad,cs,rfl,hv1,hld1,_,_⟩:=hR.sl_get (i:=0) (by simp)
 obtain⟨rfl,hok1⟩:=hv1.intD
 exact⟨_,_,_,rfl,_,hk,fun _=>⟨ad,rfl,by omega,by omega,_,hld1,rfl,hk,hD,hok1⟩,fun hc=>by simp at hc⟩
theorem AJ{x y i:Nat}(hx:x<2 ^ i)(h:2 ^ i*y+x<2 ^ 63):aX .or .u64 (x:Int) ((2 ^ i*y:Nat):Int)=((x+2 ^ i*y:Nat):Int):=by
 have e1:(BitVec.ofInt 64 (x:Int) ||| BitVec.ofInt 64 ((2 ^ i*y:Nat):Int)).toNat=x ||| 2 ^ i*y:=by
  rw[BitVec.toNat_or,BitVec.toNat_ofInt,BitVec.toNat_ofInt]
  congr 1<;>omega
 show IntKind.u64.wrap (((BitVec.ofInt 64 (x:Int) ||| BitVec.ofInt 64 ((2 ^ i*y:Nat):Int)).toNat:Nat):Int)=_
 rw[e1,Nat.or_comm,<-Nat.two_pow_add_eq_or_of_lt hx,aE (aJ.2 (by omega))]
 omega
theorem fx{N:List Nat}{w:World}{r:Nat}{n:Int}{rest:List Int}(h:cg N w r (bf n++rest))(h0:0<=n)(h1:n<4611686018427387904):
 Calls Zz 131 #[pK r] w fun e w'=>e=.returned (.int .u64 n)/\KpL [r] w w'/\cg N w' r rest:=by
 refine ut ⟨fun vs w'=>∃(j y acc:Nat),vs=[.int .u64 (acc:Int),iv ((7*j:Nat):Int)]/\j<=8/\acc<2 ^ (7*j)/\n=((acc+2 ^ (7*j)*y:Nat):Int)/\y<2 ^ (7*(8 - j)+6)/\KpL [r] w w'/\cg N w' r (iM (10 - j) y++rest),
  fun vs _=>match vs with|[_,.int _ s]=>100 - s.toNat|_=>0,⟨0,n.toNat,0,rfl,by omega,by simp,by simp;omega,by simp;omega,KpL.refl _ _,h⟩,?_⟩
 rintro n1 n2 w1 ⟨j,y,acc,hv,hj,hacc,hn,hy,hk,hD⟩
 simp only[List.cons.injEq,Value.int.injEq,true_and,and_true]at hv
 obtain⟨rfl,rfl⟩:=hv
 refine⟨fun hlt=>?_,fun hge=>by omega⟩
 obtain⟨f,hf⟩:∃f,10 - j=f+1:=⟨9 - j,by omega⟩
 rw[hf,iM]at hD
 have hp:(2:Nat) ^ (7*j)*2 ^ (7*(8 - j)+6)=2 ^ 62:=by rw[<-Nat.pow_add];congr 1;omega
 have hpos:0<(2:Nat) ^ (7*j):=Nat.pow_pos (by omega)
 have hmin:min ((7*j:Nat):Int).toNat (IntKind.bits .u64)=7*j:=by show min _ 64=_;omega
 have hcast:∀z:Nat,(z:Int)*2 ^ (7*j)=((2 ^ (7*j)*z:Nat):Int):=by intro z;rw[Int.natCast_mul,Int.natCast_pow,Int.mul_comm];rfl
 have hyb:2 ^ (7*j)*y+acc<2 ^ 63:=by
  have:2 ^ (7*j)*y<2 ^ (7*j)*2 ^ (7*(8 - j)+6):=Nat.mul_lt_mul_of_pos_left hy hpos
  rw[hp]at this
  have h2:(2:Nat) ^ (7*j)<=2 ^ 56:=Nat.pow_le_pow_right (by omega) (by omega)
  omega
 by_cases hs:y<128
 ·rw[if_pos hs]at hD
  refine⟨(i7 (x:=(y:Int)) (rest:=rest) (by simpa using hD)).mono ?_⟩
  rintro e w2 ⟨rfl,hk2,hD2,_⟩
  refine⟨_,rfl,_,hk2,?_⟩
  rw[Bx (by omega) (by omega),show((y:Int)%128)=(y:Int) by omega,hmin,hcast y,aE (aJ.2 (by omega)),AJ hacc hyb]
  refine⟨aJ.2 (by omega),by omega,fun _=>⟨by rw[hn],hk.trans hk2,hD2⟩,fun hc=>by omega⟩
 ·rw[if_neg hs]at hD
  refine⟨(i7 (x:=((y%128+128:Nat):Int)) (rest:=iM f (y / 128)++rest) (by simpa using hD)).mono ?_⟩
  rintro e w2 ⟨rfl,hk2,hD2,_⟩
  have hyd:2 ^ (7*j)*(y%128)+acc<2 ^ 63:=by
   have:2 ^ (7*j)*(y%128)<=2 ^ (7*j)*y:=Nat.mul_le_mul_left _ (Nat.mod_le _ _)
   omega
  refine⟨_,rfl,_,hk2,?_⟩
  rw[Bx (by omega) (by omega),show(((y%128+128:Nat):Int)%128)=((y%128:Nat):Int) by omega,hmin,hcast (y%128),aE (aJ.2 (by omega)),AJ hacc hyd]
  have hj7:j<=7:=by
   apply Classical.byContradiction
   intro hc
   have:j=8:=by omega
   subst this
   simp at hy
   omega
  have e7:IntKind.i64.wrap (((7*j:Nat):Int)+7)=((7*(j+1):Nat):Int):=by rw[aE (ae.2 (by omega))];omega
  have hsplit:y=y%128+128*(y / 128):=by omega
  refine⟨aJ.2 (by omega),by omega,fun hc=>by omega,fun _=>⟨⟨j+1,y / 128,acc+2 ^ (7*j)*(y%128),by rw[e7],by omega,?_,?_,?_,hk.trans hk2,?_⟩,?_⟩⟩
  ·rw[show 7*(j+1)=7*j+7 from by omega,Nat.pow_add]
   have:2 ^ (7*j)*(y%128)<=2 ^ (7*j)*127:=Nat.mul_le_mul_left _ (by omega)
   omega
  ·rw[hn]
   congr 1
   rw[show 7*(j+1)=7*j+7 from by omega,Nat.pow_add,Nat.mul_assoc,Nat.add_assoc,<-Nat.mul_add]
   congr 2
  ·have:(2:Nat) ^ (7*(8 - j)+6)=2 ^ (7*(8 - (j+1))+6)*128:=by
    rw[show 7*(8 - j)+6=7*(8 - (j+1))+6+7 from by omega,Nat.pow_add]
   omega
  ·rw[show 10 - (j+1)=f from by omega];exact hD2
  ·dsimp only;rw[e7];omega
theorem dJ{N:List Nat}{w:World}{r:Nat}{n:Nat}{rest:List Int}(h:cg N w r (bf n++rest))(hn:n<=rest.length)(h1:n<4611686018427387904):
 Calls Zz 125 #[pK r] w fun e w'=>e=.returned (iv n)/\KpL [r] w w'/\cg N w' r rest:=by
 refine yI ⟨(fx h (by omega) (by omega)).mono ?_⟩
 rintro e w1 ⟨rfl,hk,hD⟩
 obtain⟨a,m,c,T,hb,hR⟩:=hD
 obtain⟨hm,_,hm2⟩:=hR.sl_len
 have hmx:az=140737488355328:=rfl
 have e1:IntKind.u64.wrap (m:Int)=m:=aE (aJ.2 (by omega))
 rw[<-show(⟨r,0,none⟩:Addr).add 0=⟨r,0,none⟩ by rw[al]]at *
 refine⟨_,rfl,_,hk,a,m,c,by rw[al];exact ak hb 0 _ rfl,(n:Int),?_,by rw[aE (ae.2 (by omega))],hk,⟨a,m,c,T,hb,hR⟩⟩
 have:=lk (P:=Zz) (k:=.u64) (x:=(n:Int)) (y:=(m:Int)) (at_:=#[119,119]) (ty:=119)
 rw[show min (n:Int) (m:Int)=n by omega]at this
 rw[e1]
 exact this
theorem eG{N:List Nat}{w:World}{r:Nat}{x:Int}{rest:List Int}(h:cg N w r (bf (dW x)++rest))(h0 : -1152921504606846976<=x)(h1:x<=1152921504606846976):
 Calls Zz 127 #[pK r] w fun e w'=>e=.returned (iv x)/\KpL [r] w w'/\cg N w' r rest:=by
 have hz:0<=dW x/\dW x<4611686018427387904:=by unfold dW;split<;>omega
 refine uF ⟨(fx h hz.1 hz.2).mono ?_⟩
 rintro e w1 ⟨rfl,hk,hD⟩
 refine⟨_,rfl,_,hk,?_,hk,hD⟩
 congr 2
 have e1:Int.fdiv (dW x) (((2:Nat) ^ (1:Nat):Nat):Int)=dW x / 2:=by rw[eU];rfl
 rw[e1,aE (ae.2 (by omega))]
 have e2:aX .and .u64 (dW x) 1=dW x%2:=by
  have hzn:dW x=((dW x).toNat:Int):=by omega
  rw[hzn]
  generalize (dW x).toNat=m at *
  show IntKind.u64.wrap (((BitVec.ofInt 64 (m:Int) &&& BitVec.ofInt 64 (1:Int)).toNat:Nat):Int)=_
  have e3:(BitVec.ofInt 64 (m:Int) &&& BitVec.ofInt 64 (1:Int)).toNat=m%2:=by
   rw[BitVec.toNat_and,BitVec.toNat_ofInt,BitVec.toNat_ofInt]
   rw[show((m:Int)%((2 ^ 64:Nat):Int)).toNat=m by omega,show((1:Int)%((2 ^ 64:Nat):Int)).toNat=1 by omega]
   exact Nat.and_one_is_mod m
  rw[e3,aE (aJ.2 (by omega))]
  omega
 rw[e2,aE (n:=dW x%2) (ae.2 (by omega)),aE (n:=0 - dW x%2) (ae.2 (by omega))]
 have hu:=xC x
 unfold AO at hu
 by_cases hev:dW x%2=0
 ·rw[if_pos hev]at hu
  rw[hev,hu]
  show IntKind.i64.wrap (((BitVec.ofInt 64 x ^^^ BitVec.ofInt 64 (0 - 0)).toNat:Nat):Int)=x
  have e3:BitVec.ofInt 64 ((0:Int) - 0)=0#64:=by decide
  rw[e3,BitVec.xor_zero,BitVec.toNat_ofInt]
  have hx0:0<=x:=by omega
  rw[show((x%((2 ^ 64:Nat):Int)).toNat:Int)=x by omega]
  exact aE (ae.2 (by omega))
 ·rw[if_neg hev]at hu
  have hod:dW x%2=1:=by omega
  rw[hod]
  generalize hq:dW x / 2=q at *
  show IntKind.i64.wrap (((BitVec.ofInt 64 q ^^^ BitVec.ofInt 64 (0 - 1)).toNat:Nat):Int)=x
  have e3:BitVec.ofInt 64 ((0:Int) - 1)=BitVec.allOnes 64:=by decide
  rw[e3,BitVec.xor_allOnes,BitVec.toNat_not,BitVec.toNat_ofInt]
  rw[show(q%((2 ^ 64:Nat):Int)).toNat=q.toNat by omega]
  have:((2 ^ 64 - 1 - q.toNat:Nat):Int)=18446744073709551616+x:=by omega
  rw[this]
  show(let m:=(18446744073709551616+x)%18446744073709551616;if (true&&decide (m≥9223372036854775808))=true then m - 18446744073709551616 else m)=x
  simp only[Bool.true_and,decide_eq_true_eq]
  split<;>omega
theorem gD{N:List Nat}{w:World}{r:Nat}{s:ByteArray}{rest:List Int}(h:cg N w r (dK s++rest))(hs:s.size<=1000000):
 Calls Zz 126 #[pK r] w fun e w'=>e=.returned (.string s)/\KpL [r] w w'/\cg N w' r rest:=by
 unfold dK at h
 rw[List.append_assoc]at h
 refine zV ⟨(dJ h (by rw[List.length_append,bo];omega) (by omega)).mono ?_⟩
 rintro e w1 ⟨rfl,hk1,hD1⟩
 refine⟨_,rfl,_,hk1,⟨(tn hD1 (by rw[bo])).mono ?_⟩⟩
 rintro e w2 ⟨a,n,c,rfl,hk2,hR,hD2⟩
 refine⟨_,_,_,rfl,_,hk2,xS FG u9 u5 hR ⟨_,rfl,[],KpL.refl _ _,?_,hk1.trans hk2,hD2⟩⟩
 rw[vz]
end Go.Vc
namespace Go.Vc
open Go Go.Proofs
structure Vl.canon (v:Vl):Prop where
 k0:0<=v.k
 k3:v.k<=3
 text:v.k=3->v.n=0/\v.d=0/\v.s.size<=16
 num:v.k=2->v.s=ByteArray.empty/\0<=v.d/\v.d<=1099511627776/\-1099511627776<=v.n/\v.n<=1099511627776
 else_:v.k≠2->v.k≠3->v.d=0/\v.s=ByteArray.empty/\0<=v.n/\v.n<=255
theorem Vl.canon_of{v:Vl}(h:v.right=true):v.canon:=by
 have hp:v.plain=true->v.d=0/\v.s=ByteArray.empty:=by
  intro h
  unfold Vl.plain at h
  simp at h
  exact h
 unfold Vl.right at h
 split at h
 ·rename_i hk
  simp only[Bool.and_eq_true,decide_eq_true_eq]at h
  have:=hp h.1
  exact⟨by omega,by omega,by omega,by omega,fun _ _=>⟨this.1,this.2,by omega,by omega⟩⟩
 ·split at h
  ·rename_i hk
   simp only[Bool.and_eq_true,Bool.or_eq_true,decide_eq_true_eq]at h
   have:=hp h.1
   exact⟨by omega,by omega,by omega,by omega,fun _ _=>⟨this.1,this.2,by omega,by omega⟩⟩
  ·split at h
   ·rename_i hk
    simp only[Bool.and_eq_true,decide_eq_true_eq]at h
    exact⟨by omega,by omega,by omega,fun _=>⟨h.1,by omega,by omega,by omega,by omega⟩,by omega⟩
   ·split at h
    ·rename_i hk
     simp only[Bool.and_eq_true,decide_eq_true_eq]at h
     exact⟨by omega,by omega,fun _=>⟨h.1,h.2.1,h.2.2.1⟩,by omega,by omega⟩
    ·cases h
theorem Vl.canon.canon_ok{v:Vl}(h:v.canon):v.ok:=by
 have hmx:az=140737488355328:=rfl
 have h0:=h.k0
 have h3:=h.k3
 have e:(ByteArray.empty).size=0:=rfl
 refine⟨ae.2 (by omega),?_,?_,?_⟩
 all_goals
  by_cases k3:v.k=3
  ·have:=h.text k3;first|(rw[this.1];exact ae.2 (by omega))|(rw[this.2.1];exact ae.2 (by omega))|omega
  ·by_cases k2:v.k=2
   ·have:=h.num k2;first|(refine ae.2 ?_;omega)|(rw[this.1,e];omega)
   ·have:=h.else_ k2 k3;first|(refine ae.2 ?_;omega)|(rw[this.2.1,e];omega)
theorem zW(v:Vl):1<=(eZ v).length:=by unfold eZ;simp
theorem Bh(l:List Vl):l.length<=(l.flatMap eZ).length:=by
 induction l with
 |nil=>simp
 |cons v r ih =>
  rw[List.flatMap_cons,List.length_append,List.length_cons]
  have:=zW v
  omega
theorem bI.kpNew{α:Type}{e:Ty α}{M N:List Nat}{w w':World}{xs:List α}{a:Option Addr}{n c:Nat}(h:bI e M w xs a n c)(k:KpL N w w')(hs:∀b∈N,b∈M∨w.heap.size<=b):bI e M w' xs a n c:=by
 have:KpL (N.filter (· ∈M)) w w':=⟨k.os,k.tape,k.output,k.drawn,k.size,fun b hb hn=>k.blk b hb fun hm=>by
  rcases hs b hm with h|h
  ·exact hn (by simp[hm,h])
  ·omega⟩
 exact h.kp this (fun b hb=>by simpa using (List.mem_filter.1 hb).2)
set_option maxHeartbeats 1000000 in
theorem nw{M N:List Nat}{w:World}{r:Nat}{l:List Vl}{rest:List Int}(hM:∀b∈M,b<w.heap.size)(hr:r∈M)(h:cg N w r (ee l++rest))(hl:l.length<=1000)(hc:∀v∈l,v.canon):
 Calls Zz 132 #[pK r] w fun e w'=>∃a n c,e=.returned (.slice a n c)/\KpL [r] w w'/\cg (aj a++N) w' r rest/\bI cv M w' l a n c/\∀b∈aj a,w.heap.size<=b:=by
 unfold ee at h
 rw[List.append_assoc]at h
 have hfp:=Bh l
 refine vq ⟨(dJ h (by rw[List.length_append];omega) (by omega)).mono ?_⟩
 rintro e w1 ⟨rfl,hk1,hD1⟩
 refine⟨_,rfl,_,hk1,fun vs w'=>∃(i:Nat) (a:Option Addr) (n c:Nat),vs=[.slice a n c,iv (i:Int)]/\i<=l.length/\KpL [r] w w'/\cg (aj a++N) w' r ((l.drop i).flatMap eZ++rest)/\bI cv M w' (l.take i) a n c/\∀b∈aj a,w.heap.size<=b,
  fun vs _=>match vs with|[_,.int _ i]=>l.length - i.toNat|_=>0,⟨0,none,0,0,rfl,by omega,hk1,hD1,bI.nil' _ (fun b hb=>Nat.lt_of_lt_of_le (hM b hb) hk1.size),by simp[aj]⟩,?_⟩
 rintro a n c n2 w2 ⟨i,_,_,_,hv,hi,hk2,hD2,hA,hnew⟩
 simp only[List.cons.injEq,Value.int.injEq,Value.slice.injEq,true_and,and_true]at hv
 obtain⟨⟨rfl,rfl,rfl⟩,rfl⟩:=hv
 constructor
 ·intro hlt
  have gi:i<l.length:=by omega
  have hlA:=hA.len
  rw[List.length_take,Nat.min_eq_left hi]at hlA
  rw[List.drop_eq_getElem_cons gi,List.flatMap_cons,List.append_assoc]at hD2
  have htk:=List.take_append_getElem gi
  have hcan:=hc l[i] (List.getElem_mem gi)
  have hok:=hcan.canon_ok
  generalize hv:l[i]=v at *
  generalize hR:(l.drop (i+1)).flatMap eZ++rest=rest2 at *
  have hk0:=hcan.k0
  have hk3:=hcan.k3
  unfold eZ at hD2
  rw[List.cons_append]at hD2
  refine⟨(i7 hD2).mono ?_⟩
  rintro e w3 ⟨rfl,hk3',hD3,_⟩
  have ek:v.k%256=v.k:=by omega
  rw[ek]
  have dec:l.length - ((i:Int)+1).toNat<l.length - (i:Int).toNat:=by omega
  have hrw2:=hD2.lt
  have fin:∀{wa:World} {b b2:Nat} {F:List Nat},KpL F w2 wa->(∀x∈F,x=r∨w2.heap.size<=x)->wa.heap[b]?=some (.cells #[iv v.k,iv v.n,iv v.d,.string v.s] 161 (0,0))->w2.heap.size<=b->cg (b2::(aj a++N)) wa r rest2->w2.heap.size<=b2->
   ∀{Q:Value->World->Prop},(∀a' c' w',KpL (aj a) wa w'->af b (aj a)->af b2 (aj a)->(∃(i':Nat) (a'':Option Addr) (n' c'':Nat),[Value.slice a' (n+1) c',iv ((i:Int)+1)]=[.slice a'' n' c'',iv (i':Int)]/\i'<=l.length/\KpL [r] w w'/\cg (aj a''++N) w' r ((l.drop i').flatMap eZ++rest)/\bI cv M w' (l.take i') a'' n' c''/\∀b∈aj a'',w.heap.size<=b)->Q (.slice a' (n+1) c') w')->
   Ev Zz (Builtin.append_ #[79,79] 79 #[.slice a n c,sK b 1 1]) wa Q:=by
   intro wa b b2 F hkF hF hb hb2 hDa hb2' Q hq
   have hAa:bI cv M wa (l.take i) a n c:=hA.kpNew hkF fun x hx=>(hF x hx).imp (fun h=>by rw[h];exact hr) id
   have hka:KpL [r] w wa:=hk2.more hkF fun x hx=>(hF x hx).imp (fun h=>by simp[h]) (fun h=>by have:=hk2.size;omega)
   have hRv:R cv (aj a++M) wa v [iv v.k,iv v.n,iv v.d,.string v.s]:=⟨rfl,hok⟩
   refine aD El hAa hb hRv (by omega) fun a' c' w' hC=>hq a' c' w' hC.kp ⟨fun hm=>by have:=(hA.blk_lt _ hm).1;omega⟩ ⟨fun hm=>by have:=(hA.blk_lt _ hm).1;omega⟩ ⟨i+1,a',n+1,c',rfl,by omega,?_,?_,?_,?_⟩
   ·exact hka.more hC.kp fun x hx=>.inr (hnew x hx)
   ·rw[hR]
    refine hDa.step hC.kp (fun hm=>(hAa.blk_lt r hm).2 hr) (fun x hx=>.inl (by simp[hx])) fun x hx=>?_
    rcases List.mem_append.1 hx with hx|hx
    ·exact(hC.own x hx).imp (fun h=>by simp[h]) id
    ·exact .inl (by simp[hx])
   ·rw[<-htk];exact hC.acc
   ·intro x hx
    rcases hC.own x hx with hx|hx
    ·exact hnew x hx
    ·have:=hk2.size;have:=hkF.size;omega
  have s23:=hk3'.size
  refine⟨_,rfl,_,hk3',ae.2 (by omega),fun k3 hk3n=>⟨fun e3 w4 hk4 hkn4=>?_,fun e3=>⟨fun e2 w8 hk8 hkn8=>?_,fun e2 w14 hk14 hkn14=>?_⟩⟩⟩
  ·obtain⟨t1,t2,t3⟩:=hcan.text e3
   rw[if_pos e3]at hD3
   have hD4:cg (k3::(aj a++N)) w4 r (dK v.s++rest2):=hD3.step hk4 (by simp) (by simp) fun x hx=>(List.mem_cons.1 hx).elim (fun h=>.inr (by omega)) .inl
   refine⟨(gD hD4 (by omega)).mono ?_⟩
   rintro e w5 ⟨rfl,hk5,hD5⟩
   have hrk:k3≠r:=by omega
   refine⟨_,rfl,_,hk5,⟨by simpa using hrk⟩,fun k4 hk4n w6 hk6 hkn6=>?_⟩
   have s4:=hk4.size
   have s5:=hk5.size
   have s6:=hk6.size
   have hF:KpL [r,k3] w2 w6:=(((hk3'.mono (by simp)).trans (hk4.mono (by simp))).trans (hk5.mono (by simp))).trans (hk6.mono (by simp))
   have hb:=hkn6.1
   refine fin (b:=k4) (b2:=k3) hF (fun x hx=>by simp at hx;rcases hx with rfl|rfl;exact .inl rfl;exact .inr (by omega)) (by rw[t1,t2];exact hb) (by omega) (hD5.step hk6 (by simpa using hrk.symm) (by simp) fun x hx=>.inl hx) (by omega) fun a' c' w' hkp n1 n2 hinv=>⟨_,_,_,rfl,_,hkp,⟨n1,n2⟩,ae.2 (by omega),fun _=>⟨hinv,dec⟩⟩
  ·obtain⟨t1,t2,t3,t4,t5⟩:=hcan.num e2
   rw[if_neg e3,if_pos e2,aE (aJ.2 (by omega)),List.append_assoc]at hD3
   have hD4:cg (k3::(aj a++N)) w8 r (bf (dW v.n)++(bf v.d++rest2)):=hD3.step hk8 (by simp) (by simp) fun x hx=>(List.mem_cons.1 hx).elim (fun h=>.inr (by omega)) .inl
   refine⟨(eG hD4 (by omega) (by omega)).mono ?_⟩
   rintro e w9 ⟨rfl,hk9,hD9⟩
   have hrk:k3≠r:=by omega
   refine⟨_,rfl,_,hk9,⟨by simpa using hrk⟩,fun w10 hk10 hkn10=>?_⟩
   have hD10:cg (k3::(aj a++N)) w10 r (bf v.d++rest2):=hD9.step hk10 (by simpa using hrk.symm) (by simp) fun x hx=>.inl hx
   refine⟨(fx hD10 t2 (by omega)).mono ?_⟩
   rintro e w11 ⟨rfl,hk11,hD11⟩
   refine⟨_,rfl,_,hk11,⟨by simpa using hrk⟩,fun k7 hk7n w12 hk12 hkn12=>?_⟩
   have s8:=hk8.size
   have s9:=hk9.size
   have s10:=hk10.size
   have s11:=hk11.size
   have s12:=hk12.size
   have hF:KpL [r,k3] w2 w12:=(((((hk3'.mono (by simp)).trans (hk8.mono (by simp))).trans (hk9.mono (by simp))).trans (hk10.mono (by simp))).trans (hk11.mono (by simp))).trans (hk12.mono (by simp))
   have hb:=hkn12.1
   rw[aE (ae.2 (by omega))]at hb
   refine fin (b:=k7) (b2:=k3) hF (fun x hx=>by simp at hx;rcases hx with rfl|rfl;exact .inl rfl;exact .inr (by omega)) (by rw[t1];exact hb) (by omega) (hD11.step hk12 (by simpa using hrk.symm) (by simp) fun x hx=>.inl hx) (by omega) fun a' c' w' hkp n1 n2 hinv=>⟨_,_,_,rfl,_,hkp,⟨n1,n2⟩,ae.2 (by omega),fun _=>⟨hinv,dec⟩⟩
  ·obtain⟨t1,t2,t3,t4⟩:=hcan.else_ e2 e3
   have en:v.n%256=v.n:=by omega
   rw[if_neg e3,if_neg e2,en]at hD3
   have hD4:cg (k3::(aj a++N)) w14 r (v.n::rest2):=hD3.step hk14 (by simp) (by simp) fun x hx=>(List.mem_cons.1 hx).elim (fun h=>.inr (by omega)) .inl
   refine⟨(i7 hD4).mono ?_⟩
   rintro e w15 ⟨rfl,hk15,hD15,_⟩
   have hrk:k3≠r:=by omega
   refine⟨_,rfl,_,hk15,⟨by simpa using hrk⟩,ae.2 (by omega),fun k10 hk10n w16 hk16 hkn16=>?_⟩
   have s14:=hk14.size
   have s15:=hk15.size
   have s16:=hk16.size
   have hF:KpL [r,k3] w2 w16:=(((hk3'.mono (by simp)).trans (hk14.mono (by simp))).trans (hk15.mono (by simp))).trans (hk16.mono (by simp))
   have hb:=hkn16.1
   refine fin (b:=k10) (b2:=k3) hF (fun x hx=>by simp at hx;rcases hx with rfl|rfl;exact .inl rfl;exact .inr (by omega)) (by rw[t1,t2];exact hb) (by omega) (hD15.step hk16 (by simpa using hrk.symm) (by simp) fun x hx=>.inl hx) (by omega) fun a' c' w' hkp n1 n2 hinv=>⟨_,_,_,rfl,_,hkp,⟨n1,n2⟩,ae.2 (by omega),fun _=>⟨hinv,dec⟩⟩
 ·intro hge
  have hie:i=l.length:=by omega
  subst hie
  rw[List.drop_length]at hD2
  rw[List.take_length]at hA
  exact⟨_,_,_,rfl,hk2,by simpa using hD2,hA,hnew⟩
end Go.Vc
namespace Go.Vc
open Go Go.Proofs
open Go.Value Go.Ending Go.IntKind
set_option maxRecDepth 100000
section
variable{w:World}{R:Ending->World->Prop}
theorem Cr{vn vb vl l d:Nat}{nn:Int}{ba:Option Addr}{bl bc:Nat}{num nxt:Int}
 (hk:Hb w vn #[iv nn] 3/\Hb w vb #[slice ba bl bc] 33/\Hb w vl #[pK l] 113/\Hb w l #[pK d,int u64 num,iv nxt] 121)
 (hnd:([vn,vb,vl,l]:List Nat).Nodup)(hlt:∀b∈([vn,vb,vl,l]:List Nat),b<w.heap.size)
 (h :
 ∃(P1:LP)(P2:LM),(Hb w vn #[iv nn] 3/\Hb w vb #[slice ba bl bc] 33/\Hb w vl #[pK l] 113/\Hb w l #[pK d,int u64 num,iv nxt] 121->P1 [iv 0] w)/\∀n1 w1,P1 [iv n1] w1->(n1<nn->Hb w1 vn #[iv nn] 3/\Hb w1 vb #[slice ba bl bc] 33/\Hb w1 vl #[pK l] 113/\Hb w1 l #[pK d,int u64 num,iv nxt] 121->Ev Zz (Instr.makeSlice 33 (iv 64) (iv 64)) w1 fun y1 w2 =>
 ∃a1 k1 k2,y1=slice a1 k1 k2/\∃l1,KpL l1 w1 w2/\(af vn l1/\af vb l1/\af vl l1/\af l l1)/\ar i64 (n1*64)/\∃a2 k3 k4,Pv Zz (Instr.sliceAt 33 (slice ba bl bc) (some (iv (n1*64))) none none) (slice a2 k3 k4)/\(Hb w2 vn #[iv nn] 3/\Hb w2 vb #[slice ba bl bc] 33/\Hb w2 vl #[pK l] 113/\Hb w2 l #[pK d,int u64 num,iv nxt] 121->Ev Zz (Builtin.copy_ #[33,33] 3 #[slice a1 k1 k2,slice a2 k3 k4]) w2 fun y2 w3 =>
 ∃n2,y2=iv n2/\∃l2,KpL l2 w2 w3/\(af vn l2/\af vb l2/\af vl l2/\af l l2)/\ar i64 (nxt+1)/\ar i64 (nxt+1+n1)/\∀w4,KpL [] w3 w4->Hb w4 vn #[iv nn] 3/\Hb w4 vb #[slice ba bl bc] 33/\Hb w4 vl #[pK l] 113/\Hb w4 l #[pK d,int u64 num,iv nxt] 121->ag Zz 109 #[pK l,iv (nxt+1+n1)] w4 fun e1 w5 =>
 ∃n3,e1=returned (iv n3)/\KpL [] w4 w5/\(Hb w5 vn #[iv nn] 3/\Hb w5 vb #[slice ba bl bc] 33/\Hb w5 vl #[pK l] 113/\Hb w5 l #[pK d,int u64 num,iv nxt] 121->ag Zz 32 #[pK d,iv n3,slice a1 k1 k2] w5 fun e2 w6 =>
 ∃n4,e2=returned (iv n4)/\∃l3,KpL l3 w5 w6/\(af vn l3/\af vb l3/\af vl l3/\af l l3)/\(n4≠0->Hb w6 vn #[iv nn] 3/\Hb w6 vb #[slice ba bl bc] 33/\Hb w6 vl #[pK l] 113/\Hb w6 l #[pK d,int u64 num,iv nxt] 121->R (returned (iv n4)) w6)/\(¬n4≠0->ar i64 (n1+1)/\(Hb w6 vn #[iv nn] 3/\Hb w6 vb #[slice ba bl bc] 33/\Hb w6 vl #[pK l] 113/\Hb w6 l #[pK d,int u64 num,iv nxt] 121->P1 [iv (n1+1)] w6/\P2 [iv (n1+1)] w6<P2 [iv n1] w1)))))/\(¬n1<nn->Hb w1 vn #[iv nn] 3/\Hb w1 vb #[slice ba bl bc] 33/\Hb w1 vl #[pK l] 113/\Hb w1 l #[pK d,int u64 num,iv nxt] 121->ag Zz 37 #[pK d] w1 fun e3 w7 =>
 ∃n5,e3=returned (iv n5)/\∃l4,KpL l4 w1 w7/\(af vn l4/\af vb l4/\af vl l4/\af l l4)/\(Hb w7 vn #[iv nn] 3/\Hb w7 vb #[slice ba bl bc] 33/\Hb w7 vl #[pK l] 113/\Hb w7 l #[pK d,int u64 num,iv nxt] 121->R (returned (iv n5)) w7))):Calls Zz 108 #[pK vn,pK vb,pK vl] w R :=
 dD (an:={ loops:=[⟨2,[8],[3,4,5,6]++rg 9 28,[]⟩],muts:=[32,37],all:=true }) (args:=[.a (.c (.loc 0 0)),.a (.c (.loc 1 0)),.a (.c (.loc 2 0))]) (rho:=[vn,vb,vl,l]) (hp:=[(0,3,[.v (iv nn)]),(1,33,[.v (.slice ba bl bc)]),(2,113,[.loc 3 0]),(3,121,[.v (pK d),.v (.int .u64 num),.v (iv nxt)])]) aS Tryz.func108 (by kernel_rfl) rfl rfl hk hnd hlt rfl (by simp) h
theorem Da{vl vh l d:Nat}{ba:Option Addr}{bl bc:Nat}{num nxt:Int}
 (hk:Hb w vl #[pK l] 113/\Hb w vh #[slice ba bl bc] 33/\Hb w l #[pK d,int u64 num,iv nxt] 121)
 (hnd:([vl,vh,l]:List Nat).Nodup)(hlt:∀b∈([vl,vh,l]:List Nat),b<w.heap.size)
 (h :
 ∀w1,KpL [] w w1->Hb w1 l #[pK d,int u64 num,iv nxt] 121->ag Zz 109 #[pK l,iv nxt] w1 fun e1 w2 =>
 ∃n1,e1=returned (iv n1)/\KpL [] w1 w2/\ag Zz 32 #[pK d,iv n1,slice ba bl bc] w2 fun e2 w3 =>
 ∃n2,e2=returned (iv n2)/\∃l1,KpL l1 w2 w3/\(af vl l1/\af vh l1/\af l l1)/\R (returned (iv n2)) w3):Calls Zz 110 #[pK vl,pK vh] w R :=
 dD (an:={ muts:=[32,37] }) (args:=[.a (.c (.loc 0 0)),.a (.c (.loc 1 0))]) (rho:=[vl,vh,l]) (hp:=[(0,113,[.loc 2 0]),(1,33,[.v (.slice ba bl bc)]),(2,121,[.v (pK d),.v (.int .u64 num),.v (iv nxt)])]) aS Tryz.func110 (by kernel_rfl) rfl rfl hk hnd hlt rfl (by simp) h
theorem An{vl vh l d:Nat}{ba:Option Addr}{bl bc:Nat}{num nxt:Int}
 (hk:Hb w vl #[pK l] 113/\Hb w vh #[slice ba bl bc] 33/\Hb w l #[pK d,int u64 num,iv nxt] 121)
 (hnd:([vl,vh,l]:List Nat).Nodup)(hlt:∀b∈([vl,vh,l]:List Nat),b<w.heap.size)
 (h :
 (2:Int)≠(0:Int)/\∀w1,KpL [] w w1->ag Zz 32 #[pK d,iv (i64.wrap (num.tmod 2)),slice ba bl bc] w1 fun e1 w2 =>
 ∃n1,e1=returned (iv n1)/\∃l1,KpL l1 w1 w2/\(af vl l1/\af vh l1/\af l l1)/\R (returned (iv n1)) w2):Calls Zz 123 #[pK vl,pK vh] w R :=
 dD (an:={ muts:=[32,37] }) (args:=[.a (.c (.loc 0 0)),.a (.c (.loc 1 0))]) (rho:=[vl,vh,l]) (hp:=[(0,113,[.loc 2 0]),(1,33,[.v (.slice ba bl bc)]),(2,121,[.v (pK d),.v (.int .u64 num),.v (iv nxt)])]) aS Tryz.func123 (by kernel_rfl) rfl rfl hk hnd hlt rfl (by simp) h
theorem DY{l d:Nat}{num nxt:Int}{i:Int}
 (hk:Hb w l #[pK d,int u64 num,iv nxt] 121)
 (h :
 (2:Int)≠(0:Int)/\∀w1,KpL [] w w1->ag Zz 50 #[pK d] w1 fun e1 w2 =>
 ∃n1,e1=returned (iv n1)/\KpL [] w1 w2/\ar i64 (i64.wrap (num.tmod 2)*n1)/\ar i64 (2+i64.wrap (num.tmod 2)*n1)/\ar i64 (2+i64.wrap (num.tmod 2)*n1+i)/\R (returned (iv (2+i64.wrap (num.tmod 2)*n1+i))) w2):Calls Zz 109 #[pK l,iv i] w R :=
 dD (an:={}) (args:=[.a (.c (.loc 0 0)),av (iv i)]) (rho:=[l]) (hp:=[(0,121,[.v (pK d),.v (.int .u64 num),.v (iv nxt)])]) aS Tryz.func109 (by kernel_rfl) rfl rfl hk (by simp) (by simpa using ab hk) rfl (by simp) h
theorem x6{l d:Nat}{num nxt:Int}{i:Int}
 (hk:Hb w l #[pK d,int u64 num,iv nxt] 121)
 (h :
 ∃(P1:LP)(P2:LM),P1 [bv false,iv i] w/\∀b1 n1 w1,P1 [bv b1,iv n1] w1->ag Zz 50 #[pK d] w1 fun e1 w2 =>
 ∃n2,e1=returned (iv n2)/\KpL [] w1 w2/\(n1<n2->∀w3,KpL [] w2 w3->Hb w3 l #[pK d,int u64 num,iv nxt] 121->ag Zz 109 #[pK l,iv n1] w3 fun e2 w4 =>
 ∃n3,e2=returned (iv n3)/\KpL [] w3 w4/\ag Zz 35 #[pK d,iv n3] w4 fun e3 w5 =>
 ∃a1 k1 k2 n4,e3=returned (tuple #[slice a1 k1 k2,iv n4])/\KpL [] w4 w5/\(n4≠0->R (returned (iv n4)) w5)/\(¬n4≠0->ag Zz 116 (#[slice a1 k1 k2,func (Fn.func 117) #[] #[]]) w5 fun e4 w6 =>
 ∃b2,e4=returned (bv b2)/\KpL [] w5 w6/\(b2=true->(∀w7,KpL [] w6 w7->Hb w7 l #[pK d,int u64 num,iv nxt] 121->ag Zz 109 #[pK l,iv n1] w7 fun e5 w8 =>
 ∃n5,e5=returned (iv n5)/\KpL [] w7 w8/\Ev Zz (Instr.makeSlice 33 (iv 64) (iv 64)) w8 fun y1 w9 =>
 ∃a2 k3 k4,y1=slice a2 k3 k4/\∃l1,KpL l1 w8 w9/\af l l1/\(ao w9 (Addr.mk l (0+0) none) [pK d]/\True)/\ag Zz 32 #[pK d,iv n5,slice a2 k3 k4] w9 fun e6 w10 =>
 ∃n6,e6=returned (iv n6)/\∃l2,KpL l2 w9 w10/\af l l2/\(n6≠0->R (returned (iv n6)) w10)/\(¬n6≠0->ar i64 (n1+1)/\P1 [bv true,iv (n1+1)] w10/\P2 [bv true,iv (n1+1)] w10<P2 [bv b1,iv n1] w1))/\∀w11,KpL [] w6 w11->Ev Zz (Instr.makeSlice 33 (iv 64) (iv 64)) w11 fun y2 w12 =>
 ∃a3 k5 k6,y2=slice a3 k5 k6/\∃l3,KpL l3 w11 w12/\af l l3/\(ao w12 (Addr.mk l (0+0) none) [pK d]/\True)/\(Hb w12 l #[pK d,int u64 num,iv nxt] 121->ag Zz 109 #[pK l,iv n1] w12 fun e7 w13 =>
 ∃n7,e7=returned (iv n7)/\KpL [] w12 w13/\ag Zz 32 #[pK d,iv n7,slice a3 k5 k6] w13 fun e8 w14 =>
 ∃n8,e8=returned (iv n8)/\∃l4,KpL l4 w13 w14/\af l l4/\(n8≠0->R (returned (iv n8)) w14)/\(¬n8≠0->ar i64 (n1+1)/\P1 [bv true,iv (n1+1)] w14/\P2 [bv true,iv (n1+1)] w14<P2 [bv b1,iv n1] w1)))/\(b2=false->ar i64 (n1+1)/\P1 [bv b1,iv (n1+1)] w6/\P2 [bv b1,iv (n1+1)] w6<P2 [bv b1,iv n1] w1)))/\(¬n1<n2->((!b1)=true->R (returned (iv 0)) w2)/\((!b1)=false->ag Zz 37 #[pK d] w2 fun e9 w15 =>
 ∃n9,e9=returned (iv n9)/\∃l5,KpL l5 w2 w15/\af l l5/\R (returned (iv n9)) w15))):Calls Zz 57 #[pK l,iv i] w R :=
 dD (an:={ loops:=[⟨3,[5,6],[4,7,8,9]++rg 11 37,[]⟩],muts:=[32,37] }) (args:=[.a (.c (.loc 0 0)),av (iv i)]) (rho:=[l]) (hp:=[(0,121,[.v (pK d),.v (.int .u64 num),.v (iv nxt)])]) aS Tryz.func57 (by kernel_rfl) rfl rfl hk (by simp) (by simpa using ab hk) rfl (by simp) h
theorem AP{l d:Nat}{num nxt:Int}{i:Int}
 (hk:Hb w l #[pK d,int u64 num,iv nxt] 121)
 (h :
 Hb w l #[pK d,int u64 num,iv nxt] 121->ag Zz 50 #[pK d] w fun e1 w1 =>
 ∃n1,e1=returned (iv n1)/\KpL [] w w1/\(n1<=i->Hb w1 l #[pK d,int u64 num,iv nxt] 121->R (returned (tuple #[int u8 0,slice none 0 0,iv 0,iv 0])) w1)/\(¬n1<=i->∀w2,KpL [] w1 w2->Hb w2 l #[pK d,int u64 num,iv nxt] 121->ag Zz 109 #[pK l,iv i] w2 fun e2 w3 =>
 ∃n2,e2=returned (iv n2)/\KpL [] w2 w3/\(Hb w3 l #[pK d,int u64 num,iv nxt] 121->ag Zz 35 #[pK d,iv n2] w3 fun e3 w4 =>
 ∃a1 k1 k2 n3,e3=returned (tuple #[slice a1 k1 k2,iv n3])/\KpL [] w3 w4/\(n3≠0->Hb w4 l #[pK d,int u64 num,iv nxt] 121->R (returned (tuple #[int u8 0,slice none 0 0,iv 0,iv n3])) w4)/\(¬n3≠0->∃d1,a1=some d1/\(0:Int)<=(0:Int)/\(0:Int)<(↑k1:Int)/\∃n4,ao w4 (d1.add (Int.toNat 0*1)) [int u8 n4]/\∃d2,a1=some d2/\(0:Int)<=(63:Int)/\(63:Int)<(↑k1:Int)/\∃n5,ao w4 (d2.add (Int.toNat 63*1)) [int u8 n5]/\(n4≠n5->∀w5,KpL [] w4 w5->Hb w5 l #[pK d,int u64 num,iv nxt] 121->R (returned (tuple #[int u8 0,slice none 0 0,iv 0,iv 0])) w5)/\(¬n4≠n5->∃d3,a1=some d3/\(0:Int)<=(1:Int)/\(1:Int)<(↑k1:Int)/\∃n6,ao w4 (d3.add (Int.toNat 1*1)) [int u8 n6]/\ar i64 n6/\∃d4,a1=some d4/\(0:Int)<=(2:Int)/\(2:Int)<(↑k1:Int)/\∃n7,ao w4 (d4.add (Int.toNat 2*1)) [int u8 n7]/\ar i64 n7/\∃d5,a1=some d5/\(0:Int)<=(3:Int)/\(3:Int)<(↑k1:Int)/\∃n8,ao w4 (d5.add (Int.toNat 3*1)) [int u8 n8]/\ar i64 n8/\ar i64 (aX BinOp.or i64 (aX BinOp.or i64 (i64.wrap (n6*(↑((2:Nat) ^ (16:Nat)):Int))) (i64.wrap (n7*(↑((2:Nat) ^ (8:Nat)):Int)))) n8+(64:Int))/\ar i64 (aX BinOp.or i64 (aX BinOp.or i64 (i64.wrap (n6*(↑((2:Nat) ^ (16:Nat)):Int))) (i64.wrap (n7*(↑((2:Nat) ^ (8:Nat)):Int)))) n8+(64:Int) - (1:Int))/\(64:Int)≠(0:Int)/\ar i64 (i+i64.wrap ((aX BinOp.or i64 (aX BinOp.or i64 (i64.wrap (n6*(↑((2:Nat) ^ (16:Nat)):Int))) (i64.wrap (n7*(↑((2:Nat) ^ (8:Nat)):Int)))) n8+(64:Int) - (1:Int)).tdiv (64:Int)))/\∀w6,KpL [] w4 w6->Hb w6 l #[pK d,int u64 num,iv nxt] 121->ag Zz 50 #[pK d] w6 fun e4 w7 =>
 ∃n9,e4=returned (iv n9)/\KpL [] w6 w7/\(n9<=i+i64.wrap ((aX BinOp.or i64 (aX BinOp.or i64 (i64.wrap (n6*(↑((2:Nat) ^ (16:Nat)):Int))) (i64.wrap (n7*(↑((2:Nat) ^ (8:Nat)):Int)))) n8+(64:Int) - (1:Int)).tdiv (64:Int))->Hb w7 l #[pK d,int u64 num,iv nxt] 121->R (returned (tuple #[int u8 0,slice none 0 0,iv 0,iv 0])) w7)/\(¬n9<=i+i64.wrap ((aX BinOp.or i64 (aX BinOp.or i64 (i64.wrap (n6*(↑((2:Nat) ^ (16:Nat)):Int))) (i64.wrap (n7*(↑((2:Nat) ^ (8:Nat)):Int)))) n8+(64:Int) - (1:Int)).tdiv (64:Int))->∃(P1:LP)(P2:LM),(Hb w7 l #[pK d,int u64 num,iv nxt] 121->P1 [slice none 0 0,iv 0] w7)/\∀a2 k3 k4 n10 w8,P1 [slice a2 k3 k4,iv n10] w8->(n10<i64.wrap ((aX BinOp.or i64 (aX BinOp.or i64 (i64.wrap (n6*(↑((2:Nat) ^ (16:Nat)):Int))) (i64.wrap (n7*(↑((2:Nat) ^ (8:Nat)):Int)))) n8+(64:Int) - (1:Int)).tdiv (64:Int))->ar i64 (i+1)/\ar i64 (i+1+n10)/\∀w9,KpL [] w8 w9->Hb w9 l #[pK d,int u64 num,iv nxt] 121->ag Zz 109 #[pK l,iv (i+1+n10)] w9 fun e5 w10 =>
 ∃n11,e5=returned (iv n11)/\KpL [] w9 w10/\(Hb w10 l #[pK d,int u64 num,iv nxt] 121->ag Zz 35 #[pK d,iv n11] w10 fun e6 w11 =>
 ∃a3 k5 k6 n12,e6=returned (tuple #[slice a3 k5 k6,iv n12])/\KpL [] w10 w11/\(n12≠0->Hb w11 l #[pK d,int u64 num,iv nxt] 121->R (returned (tuple #[int u8 0,slice none 0 0,iv 0,iv n12])) w11)/\(¬n12≠0->Hb w11 l #[pK d,int u64 num,iv nxt] 121->Ev Zz (Builtin.append_ #[33,33] 33 #[slice a2 k3 k4,slice a3 k5 k6]) w11 fun y1 w12 =>
 ∃a4 k7 k8,y1=slice a4 k7 k8/\∃l1,KpL l1 w11 w12/\af l l1/\ar i64 (n10+1)/\(Hb w12 l #[pK d,int u64 num,iv nxt] 121->P1 [slice a4 k7 k8,iv (n10+1)] w12/\P2 [slice a4 k7 k8,iv (n10+1)] w12<P2 [slice a2 k3 k4,iv n10] w8))))/\(¬n10<i64.wrap ((aX BinOp.or i64 (aX BinOp.or i64 (i64.wrap (n6*(↑((2:Nat) ^ (16:Nat)):Int))) (i64.wrap (n7*(↑((2:Nat) ^ (8:Nat)):Int)))) n8+(64:Int) - (1:Int)).tdiv (64:Int))->∃d6,a1=some d6/\(0:Int)<=(0:Int)/\(0:Int)<(↑k1:Int)/\∃n13,ao w8 (d6.add (Int.toNat 0*1)) [int u8 n13]/\∃a5 k9 k10,Pv Zz (Instr.sliceAt (33:Nat) (slice a2 k3 k4) none (some (iv (aX BinOp.or i64 (aX BinOp.or i64 (i64.wrap (n6*(↑((2:Nat) ^ (16:Nat)):Int))) (i64.wrap (n7*(↑((2:Nat) ^ (8:Nat)):Int)))) n8))) none) (slice a5 k9 k10)/\ar i64 (i+1)/\ar i64 (i+(1:Int)+i64.wrap ((aX BinOp.or i64 (aX BinOp.or i64 (i64.wrap (n6*(↑((2:Nat) ^ (16:Nat)):Int))) (i64.wrap (n7*(↑((2:Nat) ^ (8:Nat)):Int)))) n8+(64:Int) - (1:Int)).tdiv (64:Int)))/\∀w13,KpL [] w8 w13->Hb w13 l #[pK d,int u64 num,iv nxt] 121->R (returned (tuple #[int u8 n13,slice a5 k9 k10,iv (i+(1:Int)+i64.wrap ((aX BinOp.or i64 (aX BinOp.or i64 (i64.wrap (n6*(↑((2:Nat) ^ (16:Nat)):Int))) (i64.wrap (n7*(↑((2:Nat) ^ (8:Nat)):Int)))) n8+(64:Int) - (1:Int)).tdiv (64:Int))),iv (0:Int)])) w13))))))):Calls Zz 64 #[pK l,iv i] w R :=
 dD (an:={ loops:=[⟨13,[5,72],[4,6,7,11,12,13]++rg 73 23,[]⟩],all:=true }) (args:=[.a (.c (.loc 0 0)),av (iv i)]) (rho:=[l]) (hp:=[(0,121,[.v (pK d),.v (.int .u64 num),.v (iv nxt)])]) aS Tryz.func64 (by kernel_rfl) rfl rfl hk (by simp) (by simpa using ab hk) rfl (by simp) h
theorem AQ{l d:Nat}{num nxt:Int}
 (hk:Hb w l #[pK d,int u64 num,iv nxt] 121)
 (h :
 ∀k1,w.heap.size<=k1->∀w1,KpL [] w w1->Hb w1 k1 #[pK l] 113/\Hb w1 l #[pK d,int u64 num,iv nxt] 121->Ev Zz (Instr.makeSlice 33 (iv 64) (iv 64)) w1 fun y1 w2 =>
 ∃a1 k2 k3,y1=slice a1 k2 k3/\∃l1,KpL l1 w1 w2/\(af k1 l1/\af l l1)/\∀k4,w2.heap.size<=k4->∃(P1:LP)(P2:LM),(∀w3,KpL [] w2 w3->Hb w3 k4 #[slice a1 k2 k3] 33/\Hb w3 k1 #[pK l] 113/\Hb w3 l #[pK d,int u64 num,iv nxt] 121->P1 [iv 0] w3)/\∀n1 w4,P1 [iv n1] w4->(n1<8->ar i64 (7 - n1)/\ar i64 (8*(7 - n1))/\0<=8*(7 - n1)/\ar i64 (56+n1)/\Ad a1 n1 k2 fun d1=>∀w5,KpL [] w4 w5->Hb w5 k4 #[slice a1 k2 k3] 33/\Hb w5 k1 #[pK l] 113/\Hb w5 l #[pK d,int u64 num,iv nxt] 121->(∃l2,ao w5 (d1.add (n1.toNat*1)) l2/\l2.length=1)/\aq w5 (d1.add (n1.toNat*1)) 1/\(af k4 [(d1.add (n1.toNat*1)).block]/\af k1 [(d1.add (n1.toNat*1)).block]/\af l [(d1.add (n1.toNat*1)).block])/\∀w6,w6=bL w5 (d1.add (n1.toNat*1)) [int u8 (u8.wrap (num.fdiv (2 ^ Min.min (8*(7 - n1)).toNat u64.bits)))] 0->Hb w6 k4 #[slice a1 k2 k3] 33/\Hb w6 k1 #[pK l] 113/\Hb w6 l #[pK d,int u64 num,iv nxt] 121->(ao w6 (Addr.mk k4 0 none) [slice a1 k2 k3]/\True)/\Ad a1 (56+n1) k2 fun d2=>(Hb w6 k4 #[slice a1 k2 k3] 33/\Hb w6 k1 #[pK l] 113/\Hb w6 l #[pK d,int u64 num,iv nxt] 121->(∃l3,ao w6 (d2.add ((56+n1).toNat*1)) l3/\l3.length=1)/\aq w6 (d2.add ((56+n1).toNat*1)) 1/\(af k4 [(d2.add ((56+n1).toNat*1)).block]/\af k1 [(d2.add ((56+n1).toNat*1)).block]/\af l [(d2.add ((56+n1).toNat*1)).block])/\∀w7,w7=bL w6 (d2.add ((56+n1).toNat*1)) [int u8 (u8.wrap (num.fdiv (2 ^ Min.min (8*(7 - n1)).toNat u64.bits)))] 0->ar i64 (n1+1)/\(Hb w7 k4 #[slice a1 k2 k3] 33/\Hb w7 k1 #[pK l] 113/\Hb w7 l #[pK d,int u64 num,iv nxt] 121->P1 [iv (n1+1)] w7/\P2 [iv (n1+1)] w7<P2 [iv n1] w4)))/\(¬n1<8->∀k5,w4.heap.size<=k5->∀w8,KpL [] w4 w8->Hb w8 k5 #[func (Fn.func 123) #[] #[pK k1,pK k4],func (Fn.func 37) #[pK d] #[]] 49/\Hb w8 k4 #[slice a1 k2 k3] 33/\Hb w8 k1 #[pK l] 113/\Hb w8 l #[pK d,int u64 num,iv nxt] 121->ag Zz 55 #[sK k5 2 2] w8 fun e1 w9 =>
 ∃n2,e1=returned (iv n2)/\∃l4,KpL l4 w8 w9/\(af k4 l4/\af k1 l4/\af l l4)/\(Hb w9 k4 #[slice a1 k2 k3] 33/\Hb w9 k1 #[pK l] 113/\Hb w9 l #[pK d,int u64 num,iv nxt] 121->R (returned (iv n2)) w9))):Calls Zz 60 #[pK l] w R :=
 dD (an:={ loops:=[⟨3,[7],[4,5]++rg 8 21,[]⟩],muts:=[55],all:=true }) (args:=[.a (.c (.loc 0 0))]) (rho:=[l]) (hp:=[(0,121,[.v (pK d),.v (.int .u64 num),.v (iv nxt)])]) aS Tryz.func60 (by kernel_rfl) rfl rfl hk (by simp) (by simpa using ab hk) rfl (by simp) h
theorem Co{l d:Nat}{num nxt:Int}{q:Int}{ba:Option Addr}{bl bc:Nat}
 (hk:Hb w l #[pK d,int u64 num,iv nxt] 121)
 (h :
 ∀k1,w.heap.size<=k1->∀k2,w.heap.size<=k2->ar i64 ((↑bl:Int)+(64:Int))/\ar i64 ((↑bl:Int)+(64:Int) - (1:Int))/\(64:Int)≠(0:Int)/\∀k3,w.heap.size<=k3->∀w1,KpL [] w w1->Hb w1 k3 #[iv (i64.wrap (((↑bl:Int)+(64:Int) - (1:Int)).tdiv (64:Int)))] 3/\Hb w1 k2 #[slice ba bl bc] 33/\Hb w1 k1 #[pK l] 113/\Hb w1 l #[pK d,int u64 num,iv nxt] 121->Ev Zz (Instr.makeSlice 33 (iv 64) (iv 64)) w1 fun y1 w2 =>
 ∃a1 k4 k5,y1=slice a1 k4 k5/\∃l1,KpL l1 w1 w2/\(af k3 l1/\af k2 l1/\af k1 l1/\af l l1)/\∀k6,w2.heap.size<=k6->∃d1,a1=some d1/\(0:Int)<=(0:Int)/\(0:Int)<(↑k4:Int)/\∀w3,KpL [] w2 w3->Hb w3 k6 #[slice a1 k4 k5] 33/\Hb w3 k3 #[iv (i64.wrap (((↑bl:Int)+(64:Int) - (1:Int)).tdiv (64:Int)))] 3/\Hb w3 k2 #[slice ba bl bc] 33/\Hb w3 k1 #[pK l] 113/\Hb w3 l #[pK d,int u64 num,iv nxt] 121->(∃l2,ao w3 (d1.add (Int.toNat 0*1)) l2/\l2.length=1)/\aq w3 (d1.add (Int.toNat 0*1)) 1/\(af k6 [(d1.add (Int.toNat 0*1)).block]/\af k3 [(d1.add (Int.toNat 0*1)).block]/\af k2 [(d1.add (Int.toNat 0*1)).block]/\af k1 [(d1.add (Int.toNat 0*1)).block]/\af l [(d1.add (Int.toNat 0*1)).block])/\∀w4,w4=bL w3 (d1.add (Int.toNat 0*1)) [int u8 q] 0->Hb w4 k6 #[slice a1 k4 k5] 33/\Hb w4 k3 #[iv (i64.wrap (((↑bl:Int)+(64:Int) - (1:Int)).tdiv (64:Int)))] 3/\Hb w4 k2 #[slice ba bl bc] 33/\Hb w4 k1 #[pK l] 113/\Hb w4 l #[pK d,int u64 num,iv nxt] 121->(ao w4 (Addr.mk k6 0 none) [slice a1 k4 k5]/\True)/\∃d2,a1=some d2/\(0:Int)<=(63:Int)/\(63:Int)<(↑k4:Int)/\(Hb w4 k6 #[slice a1 k4 k5] 33/\Hb w4 k3 #[iv (i64.wrap (((↑bl:Int)+(64:Int) - (1:Int)).tdiv (64:Int)))] 3/\Hb w4 k2 #[slice ba bl bc] 33/\Hb w4 k1 #[pK l] 113/\Hb w4 l #[pK d,int u64 num,iv nxt] 121->(∃l3,ao w4 (d2.add (Int.toNat 63*1)) l3/\l3.length=1)/\aq w4 (d2.add (Int.toNat 63*1)) 1/\(af k6 [d2.block]/\af k3 [d2.block]/\af k2 [d2.block]/\af k1 [d2.block]/\af l [d2.block])/\∀w5,w5=bL w4 (d2.add (Int.toNat 63*1)) [int u8 q] 0->∃d3,a1=some d3/\(0:Int)<=(1:Int)/\(1:Int)<(↑k4:Int)/\∀w6,KpL [] w5 w6->Hb w6 k6 #[slice a1 k4 k5] 33/\Hb w6 k3 #[iv (i64.wrap (((↑bl:Int)+(64:Int) - (1:Int)).tdiv (64:Int)))] 3/\Hb w6 k2 #[slice ba bl bc] 33/\Hb w6 k1 #[pK l] 113/\Hb w6 l #[pK d,int u64 num,iv nxt] 121->(∃l4,ao w6 (d3.add (Int.toNat 1*1)) l4/\l4.length=1)/\aq w6 (d3.add (Int.toNat 1*1)) 1/\(af k6 [d3.block]/\af k3 [d3.block]/\af k2 [d3.block]/\af k1 [d3.block]/\af l [d3.block])/\∀w7,w7=bL w6 (d3.add (Int.toNat (1:Int)*(1:Nat))) [int u8 (u8.wrap ((↑bl:Int).fdiv (↑((2:Nat) ^ (16:Nat)):Int)))] (0:Nat)->Hb w7 k6 #[slice a1 k4 k5] 33/\Hb w7 k3 #[iv (i64.wrap (((↑bl:Int)+(64:Int) - (1:Int)).tdiv (64:Int)))] 3/\Hb w7 k2 #[slice ba bl bc] 33/\Hb w7 k1 #[pK l] 113/\Hb w7 l #[pK d,int u64 num,iv nxt] 121->(ao w7 (Addr.mk k2 0 none) [slice ba bl bc]/\ao w7 (Addr.mk k2 0 none) [slice ba bl bc]/\ao w7 (Addr.mk k6 0 none) [slice a1 k4 k5]/\ao w7 (Addr.mk k6 0 none) [slice a1 k4 k5]/\True)/\∃d4,a1=some d4/\(0:Int)<=(2:Int)/\(2:Int)<(↑k4:Int)/\(Hb w7 k6 #[slice a1 k4 k5] 33/\Hb w7 k3 #[iv (i64.wrap (((↑bl:Int)+(64:Int) - (1:Int)).tdiv (64:Int)))] 3/\Hb w7 k2 #[slice ba bl bc] 33/\Hb w7 k1 #[pK l] 113/\Hb w7 l #[pK d,int u64 num,iv nxt] 121->(∃l5,ao w7 (d4.add (Int.toNat 2*1)) l5/\l5.length=1)/\aq w7 (d4.add (Int.toNat 2*1)) 1/\(af k6 [d4.block]/\af k3 [d4.block]/\af k2 [d4.block]/\af k1 [d4.block]/\af l [d4.block])/\∀w8,w8=bL w7 (d4.add (Int.toNat (2:Int)*(1:Nat))) [int u8 (u8.wrap ((↑bl:Int).fdiv (↑((2:Nat) ^ (8:Nat)):Int)))] (0:Nat)->Hb w8 k6 #[slice a1 k4 k5] 33/\Hb w8 k3 #[iv (i64.wrap (((↑bl:Int)+(64:Int) - (1:Int)).tdiv (64:Int)))] 3/\Hb w8 k2 #[slice ba bl bc] 33/\Hb w8 k1 #[pK l] 113/\Hb w8 l #[pK d,int u64 num,iv nxt] 121->(ao w8 (Addr.mk k2 0 none) [slice ba bl bc]/\ao w8 (Addr.mk k6 0 none) [slice a1 k4 k5]/\True)/\∃d5,a1=some d5/\(0:Int)<=(3:Int)/\(3:Int)<(↑k4:Int)/\(Hb w8 k6 #[slice a1 k4 k5] 33/\Hb w8 k3 #[iv (i64.wrap (((↑bl:Int)+(64:Int) - (1:Int)).tdiv (64:Int)))] 3/\Hb w8 k2 #[slice ba bl bc] 33/\Hb w8 k1 #[pK l] 113/\Hb w8 l #[pK d,int u64 num,iv nxt] 121->(∃l6,ao w8 (d5.add (Int.toNat 3*1)) l6/\l6.length=1)/\aq w8 (d5.add (Int.toNat 3*1)) 1/\(af k6 [d5.block]/\af k3 [d5.block]/\af k2 [d5.block]/\af k1 [d5.block]/\af l [d5.block])/\∀w9,w9=bL w8 (d5.add (Int.toNat (3:Int)*(1:Nat))) [int u8 (u8.wrap (↑bl:Int))] (0:Nat)->∀k7,w9.heap.size<=k7->∀w10,KpL [] w9 w10->Hb w10 k7 #[func (Fn.func 108) #[] #[pK k3,pK k2,pK k1],func (Fn.func 110) #[] #[pK k1,pK k6],func (Fn.func 37) #[pK d] #[]] 49/\Hb w10 k6 #[slice a1 k4 k5] 33/\Hb w10 k3 #[iv (i64.wrap (((↑bl:Int)+(64:Int) - (1:Int)).tdiv (64:Int)))] 3/\Hb w10 k2 #[slice ba bl bc] 33/\Hb w10 k1 #[pK l] 113/\Hb w10 l #[pK d,int u64 num,iv nxt] 121->ag Zz 55 #[sK k7 3 3] w10 fun e1 w11 =>
 ∃n1,e1=returned (iv n1)/\∃l7,KpL l7 w10 w11/\(af k6 l7/\af k3 l7/\af k2 l7/\af k1 l7/\af l l7)/\(n1=0->ar i64 ((1:Int)+i64.wrap (((↑bl:Int)+(64:Int) - (1:Int)).tdiv (64:Int)))/\ar i64 (nxt+((1:Int)+i64.wrap (((↑bl:Int)+(64:Int) - (1:Int)).tdiv (64:Int))))/\∀w12,KpL [l] w11 w12->Hb w12 k6 #[slice a1 k4 k5] 33/\Hb w12 k3 #[iv (i64.wrap (((↑bl:Int)+(64:Int) - (1:Int)).tdiv (64:Int)))] 3/\Hb w12 k2 #[slice ba bl bc] 33/\Hb w12 k1 #[pK l] 113/\Hb w12 l #[pointer (some (Addr.mk d (0:Nat) none)),int u64 num,iv (nxt+((1:Int)+i64.wrap (((↑bl:Int)+(64:Int) - (1:Int)).tdiv (64:Int))))] 121->R (returned (iv n1)) w12)/\(¬n1=0->Hb w11 k6 #[slice a1 k4 k5] 33/\Hb w11 k3 #[iv (i64.wrap (((↑bl:Int)+(64:Int) - (1:Int)).tdiv (64:Int)))] 3/\Hb w11 k2 #[slice ba bl bc] 33/\Hb w11 k1 #[pK l] 113/\Hb w11 l #[pK d,int u64 num,iv nxt] 121->R (returned (iv n1)) w11))))):Calls Zz 52 #[pK l,int u8 q,slice ba bl bc] w R :=
 dD (an:={ muts:=[55],all:=true }) (args:=[.a (.c (.loc 0 0)),av (.int .u8 q),av (.slice ba bl bc)]) (rho:=[l]) (hp:=[(0,121,[.v (pK d),.v (.int .u64 num),.v (iv nxt)])]) aS Tryz.func52 (by kernel_rfl) rfl rfl hk (by simp) (by simpa using ab hk) rfl (by simp) h
theorem DG{a:Option Addr}{n c:Nat}
 (h :
 ∃(P1:LP)(P2:LM),P1 [iv 0] w/\∀n1 w1,P1 [iv n1] w1->(n1<(↑n:Int)->Ad a n1 n fun d1=>∃x1 v1 v2,ao w1 (d1.add (n1.toNat*1)) [func (Fn.func x1) v1 v2]/\cR Zz x1/\ag Zz x1 ((v1.toList++[]++v2.toList).toArray) w1 fun e1 w2 =>
 ∃n2,e1=returned (iv n2)/\∃l1,KpL l1 w1 w2/\(n2≠0->R (returned (iv n2)) w2)/\(¬n2≠0->ar i64 (n1+1)/\P1 [iv (n1+1)] w2/\P2 [iv (n1+1)] w2<P2 [iv n1] w1))/\(¬n1<(↑n:Int)->R (returned (iv 0)) w1)):Calls Zz 55 #[slice a n c] w R :=
 fz { loops:=[⟨2,[8],[2,4,5]++rg 9 9,[]⟩] } [av (.slice a n c)] Tryz.func55 h
theorem EW{x:Int}
 (h :
 R (returned (bv (decide (x≠0)))) w):Calls Zz 117 #[int u8 x] w R :=
 fz {} [av (.int .u8 x)] Tryz.func117 h
theorem yY{d:Nat}
 (h :
 ∀k1,w.heap.size<=k1->∃(P1:LP)(P2:LM),(∀w1,KpL [] w w1->Hb w1 k1 #[pK d,int u64 0,iv 0] 121->P1 [iv 0,pK d,int u64 0,iv 0] w1)/\∀n1 a1 n2 n3 w2,Hb w2 k1 #[pointer a1,int u64 n2,iv n3] 121->P1 [iv n1,pointer a1,int u64 n2,iv n3] w2->(n1<2->Hb w2 k1 #[pointer a1,int u64 n2,iv n3] 121->ag Zz 35 #[pK d,iv n1] w2 fun e1 w3 =>
 ∃a2 k2 k3 n4,e1=returned (tuple #[slice a2 k2 k3,iv n4])/\KpL [] w2 w3/\(n4≠0->Hb w3 k1 #[pointer a1,int u64 n2,iv n3] 121->R (returned (tuple #[pointer none,iv n4])) w3)/\(¬n4≠0->∃a3 k4 k5,Pv Zz (Instr.sliceAt 33 (slice a2 k2 k3) none (some (iv 8)) none) (slice a3 k4 k5)/\∃(P3:LP) (P4:LM),(Hb w3 k1 #[pointer a1,int u64 n2,iv n3] 121->P3 [int u64 0,iv 0] w3)/\∀n5 n6 w4,P3 [int u64 n5,iv n6] w4->(n6<(↑k4:Int)->Ad a3 n6 k4 fun d1=>(Hb w4 k1 #[pointer a1,int u64 n2,iv n3] 121->∃n7,ao w4 (d1.add (n6.toNat*1)) [int u8 n7]/\ar u64 n7/\ar i64 (n6+1)/\(Hb w4 k1 #[pointer a1,int u64 n2,iv n3] 121->P3 [int u64 (aX BinOp.or u64 (u64.wrap (n5*(↑((2:Nat) ^ (8:Nat)):Int))) n7),iv (n6+(1:Int))] w4/\P4 [int u64 (aX BinOp.or u64 (u64.wrap (n5*(↑((2:Nat) ^ (8:Nat)):Int))) n7),iv (n6+(1:Int))] w4<P4 [int u64 n5,iv n6] w4)))/\(¬n6<(↑k4:Int)->∃a4 k6 k7,Pv Zz (Instr.sliceAt 33 (slice a2 k2 k3) none (some (iv 8)) none) (slice a4 k6 k7)/\∃a5 k8 k9,Pv Zz (Instr.sliceAt 33 (slice a2 k2 k3) (some (iv 56)) none none) (slice a5 k8 k9)/\∀w5,KpL [] w4 w5->Hb w5 k1 #[pointer a1,int u64 n2,iv n3] 121->ag Zz 124 #[slice a4 k6 k7,slice a5 k8 k9] w5 fun e2 w6 =>
 ∃b1,e2=returned (bv b1)/\KpL [] w5 w6/\(b1=true->(n2<n5->(2:Int)≠(0:Int)/\(i64.wrap (n5.tmod 2)=n1->ar i64 (n1+1)/\∀w7,KpL [k1] w6 w7->Hb w7 k1 #[pointer a1,int u64 n5,iv n3] 121->P1 [iv (n1+1),pointer a1,int u64 n5,iv n3] w7/\P2 [iv (n1+1),pointer a1,int u64 n5,iv n3] w7<P2 [iv n1,pointer a1,int u64 n2,iv n3] w2)/\(¬i64.wrap (n5.tmod 2)=n1->ar i64 (n1+1)/\(Hb w6 k1 #[pointer a1,int u64 n2,iv n3] 121->P1 [iv (n1+1),pointer a1,int u64 n2,iv n3] w6/\P2 [iv (n1+1),pointer a1,int u64 n2,iv n3] w6<P2 [iv n1,pointer a1,int u64 n2,iv n3] w2)))/\(¬n2<n5->ar i64 (n1+1)/\(Hb w6 k1 #[pointer a1,int u64 n2,iv n3] 121->P1 [iv (n1+1),pointer a1,int u64 n2,iv n3] w6/\P2 [iv (n1+1),pointer a1,int u64 n2,iv n3] w6<P2 [iv n1,pointer a1,int u64 n2,iv n3] w2)))/\(b1=false->ar i64 (n1+1)/\(Hb w6 k1 #[pointer a1,int u64 n2,iv n3] 121->P1 [iv (n1+1),pointer a1,int u64 n2,iv n3] w6/\P2 [iv (n1+1),pointer a1,int u64 n2,iv n3] w6<P2 [iv n1,pointer a1,int u64 n2,iv n3] w2)))))/\(¬n1<2->Hb w2 k1 #[pointer a1,int u64 n2,iv n3] 121->R (returned (tuple #[pK k1,iv 0])) w2)):Calls Zz 63 #[pK d] w R :=
 fz { loops:=[⟨10,[8,29],[10]++rg 30 9,[]⟩,⟨3,[14],[2,3,5,6,7,8,10]++rg 15 49,[4]⟩],all:=true } [av (pK d)] Tryz.func63 h
theorem oC{a:Option Addr}{n c:Nat}{f:Nat}{fi ca:Array Value}
 (h :
 ag Zz 157 #[slice a n c,func (Fn.func f) fi ca] w fun e1 w1 =>
 ∃n1,e1=returned (iv n1)/\KpL [] w w1/\R (returned (bv (decide (0<=n1)))) w1):Calls Zz 116 #[slice a n c,func (Fn.func f) fi ca] w R :=
 fz {} [av (.slice a n c),av (.func (.func f) fi ca)] Tryz.func116 h
theorem sX{a:Option Addr}{n c:Nat}{f:Nat}{fi ca:Array Value}
 (h :
 ∃(P1:LP)(P2:LM),P1 [iv 0] w/\∀n1 w1,P1 [iv n1] w1->(n1<(↑n:Int)->Ad a n1 n fun d1=>∃n2,ao w1 (d1.add (n1.toNat*1)) [int u8 n2]/\cR Zz f/\ag Zz f ((fi.toList++[int u8 n2]++ca.toList).toArray) w1 fun e1 w2 =>
 ∃b1,e1=returned (bv b1)/\∃l1,KpL l1 w1 w2/\(b1=true->R (returned (iv n1)) w2)/\(b1=false->ar i64 (n1+1)/\P1 [iv (n1+1)] w2/\P2 [iv (n1+1)] w2<P2 [iv n1] w1))/\(¬n1<(↑n:Int)->R (returned (iv (-1))) w1)):Calls Zz 157 #[slice a n c,func (Fn.func f) fi ca] w R :=
 fz { loops:=[⟨2,[8],[4,5]++rg 9 10,[]⟩] } [av (.slice a n c),av (.func (.func f) fi ca)] Tryz.func157 h
end
end Go.Vc
namespace Go.Vc
open Go Go.Proofs
def zH(b:Nat):List (FuncId×Array Value×Array Value)->World->(Int->World->Prop)->Prop
 |[],w,R=>R 0 w
 |f::r,w,R=>cR Zz f.1/\ag Zz f.1 (f.2.1++f.2.2) w fun e w'=>∃n F,e=.returned (iv n)/\KpL F w w'/\af b F/\(n≠0->R n w')/\(n=0->zH b r w' R)
theorem qR{b:Nat}{fs:List (FuncId×Array Value×Array Value)}{w:World}{T:TypeId}(hb:w.heap[b]?=some (.cells (fs.map fun f=>Value.func (.func f.1) f.2.1 f.2.2).toArray T (0,0)))(hn:fs.length<=1000){c:Nat}
 {R:Ending->World->Prop}(h:zH b fs w fun n w'=>R (.returned (iv n)) w'):Calls Zz 55 #[sK b fs.length c] w R:=by
 refine DG ⟨fun vs w'=>∃i,vs=[iv i]/\0<=i/\i<=fs.length/\w'.heap[b]?=some (.cells (fs.map fun f=>Value.func (.func f.1) f.2.1 f.2.2).toArray T (0,0))/\zH b (fs.drop i.toNat) w' fun n w'=>R (.returned (iv n)) w',
  fun vs _=>match vs with|[.int _ i]=>fs.length - i.toNat|_=>0,⟨0,rfl,by omega,by omega,hb,h⟩,?_⟩
 rintro n1 w1 ⟨i,hv,hi0,hi1,hb1,hs⟩
 obtain rfl:=v1 hv
 constructor
 ·intro hlt
  have hi:n1.toNat<fs.length:=by omega
  rw[List.drop_eq_getElem_cons hi]at hs
  obtain⟨hfo,hs⟩:=hs
  refine⟨_,rfl,hi0,hlt,fs[n1.toNat].1,fs[n1.toNat].2.1,fs[n1.toNat].2.2,?_,hfo,⟨?_⟩⟩
  ·rw[al]
   refine ak hb1 _ _ ?_
   apply List.ext_getElem?
   intro j
   cases j with
   |zero=>simp[hi]
   |succ j=>simp;omega
  have e:(fs[n1.toNat].2.1.toList++[]++fs[n1.toNat].2.2.toList).toArray=fs[n1.toNat].2.1++fs[n1.toNat].2.2:=by apply Array.ext';simp
  rw[e]
  refine hs.calls.mono ?_
  rintro e w2 ⟨n,F,rfl,hk,hF,h1,h2⟩
  refine⟨n,rfl,F,hk,h1,fun hz=>⟨ae.2 (by omega),⟨n1+1,rfl,by omega,by omega,by rw[hk.blk b (ab hb1) hF.no];exact hb1,?_⟩,?_⟩⟩
  ·rw[show(n1+1).toNat=n1.toNat+1 from by omega]
   exact h2 (Classical.not_not.1 hz)
  ·show fs.length - (n1+1).toNat<fs.length - n1.toNat
   omega
 ·intro hge
  rw[List.drop_eq_nil_of_le (by omega)]at hs
  exact hs
structure mN {α:Type} (t:Ty α) (M:List Nat) (w0:World) (f:FuncId) (fi ca:Array Value) (p:α->Bool):Prop where
 ok:cR Zz f
 calls:∀(x:α) (cs:List Value) (v:Value) (w:World),KpL [] w0 w->R t M w x cs->v=(match cs with|[v]=>v|cs=>.agg cs.toArray)->Calls Zz f (fi.toList++[v]++ca.toList).toArray w (aA (.bool (p x)) w)
def idxOf{α:Type}(p:α->Bool):List α->Int->Int
 |[],_ => -1
 |x::r,i=>if p x then i else idxOf p r (i+1)
theorem ji{α:Type}(p:α->Bool):∀(l:List α) (i:Int),0<=i->decide (0<=idxOf p l i)=l.any p
 |[],i,_=>by simp[idxOf]
 |x::r,i,h=>by
  unfold idxOf
  cases hp:p x
  ·simp only[Bool.false_eq_true,if_false,List.any_cons,hp,Bool.false_or]
   exact ji p r (i+1) (by omega)
  ·simp[hp,h]
theorem tJ{M:List Nat}{w:World}{xs:List Int}{a:Option Addr}{n c:Nat}{f:FuncId}{fi ca:Array Value}{p:Int->Bool}(hR:R (au (tI .u8)) M w xs [.slice a n c])(hp:mN (tI .u8) M w f fi ca p):
 Calls Zz 157 #[.slice a n c,.func (.func f) fi ca] w (aA (iv (idxOf p xs 0)) w):=by
 obtain⟨rfl,h1,h2⟩:=hR.sl_len
 have hmx:az=140737488355328:=rfl
 refine sX ⟨fun vs w'=>∃i,vs=[iv i]/\0<=i/\i<=xs.length/\KpL [] w w'/\idxOf p (xs.drop i.toNat) i=idxOf p xs 0,fun vs _=>match vs with|[.int _ i]=>xs.length - i.toNat|_=>0,
  ⟨0,rfl,by omega,by omega,KpL.refl _ _,rfl⟩,?_⟩
 rintro n1 w1 ⟨i,hv,hi0,hi1,hk,he⟩
 obtain rfl:=v1 hv
 constructor
 ·intro hlt
  have hi:n1.toNat<xs.length:=by omega
  obtain⟨ad,cs,rfl,hv1,hld,_,_⟩:=(hR.kp0 hk).sl_get hi
  obtain⟨rfl,hin⟩:=hv1.intD
  rw[List.drop_eq_getElem_cons hi,idxOf]at he
  refine⟨ad,rfl,hi0,hlt,_,hld,hp.ok,⟨(hp.calls _ _ _ w1 hk hv1 rfl).mono ?_⟩⟩
  rintro e w2 ⟨rfl,hk2⟩
  refine⟨_,rfl,_,hk2,fun hb=>⟨?_,hk.trans hk2⟩,fun hb=>⟨ae.2 (by omega),⟨n1+1,rfl,by omega,by omega,hk.trans hk2,?_⟩,?_⟩⟩
  ·rw[hb,if_pos rfl]at he;rw[he]
  ·rw[hb,if_neg (by simp)]at he
   rw[show(n1+1).toNat=n1.toNat+1 from by omega];exact he
  ·show xs.length - (n1+1).toNat<xs.length - n1.toNat
   omega
 ·intro hge
  rw[List.drop_eq_nil_of_le (by omega)]at he
  refine⟨?_,hk⟩
  rw[<-he];rfl
theorem ot{M:List Nat}{w:World}{xs:List Int}{a:Option Addr}{n c:Nat}{f:FuncId}{fi ca:Array Value}{p:Int->Bool}(hR:R (au (tI .u8)) M w xs [.slice a n c])(hp:mN (tI .u8) M w f fi ca p):
 Calls Zz 116 #[.slice a n c,.func (.func f) fi ca] w (aA (.bool (xs.any p)) w):=by
 refine oC ⟨(tJ hR hp).mono ?_⟩
 rintro e w1 ⟨rfl,hk⟩
 exact⟨_,rfl,hk,by rw[ji p xs 0 (by omega)],hk⟩
theorem C6(M:List Nat)(w0:World):mN (tI .u8) M w0 117 #[] #[] (fun x=>decide (x≠0)):=by
 refine⟨⟨_,_,Tryz.func117,rfl⟩,?_⟩
 rintro x cs v w hk ⟨rfl,hin⟩ rfl
 exact EW ⟨rfl,KpL.refl _ _⟩
end Go.Vc
namespace Go.Vc
open Go Go.Proofs
def aM(w:World)(l d:Nat)(num nxt:Int):Prop:=w.heap[l]?=some (.cells #[pK d,.int .u64 num,iv nxt] 121 (0,0))
theorem aM.keep{w w':World}{l d:Nat}{num nxt:Int}{F:List Nat}(h:aM w l d num nxt)(k:KpL F w w')(hl:l∉F):aM w' l d num nxt:=(k.blk l (ab h) hl).trans h
def Dk.base(k:Dk)(num:Int):Nat:=2+(num%2).toNat*k.half
theorem Dk.half_le(k:Dk):k.half<=k.n:=by unfold Dk.half Dk.secs;omega
theorem jN{M F:List Nat}{w:World}{d l:Nat}{k:Dk}{num nxt:Int}(h:bz M w d k F)(hl:aM w l d num nxt)(h2:2<=k.n)(hnum:0<=num){i:Int}(hi0:0<=i)(hi1:i<=1000000):
 Calls Zz 109 #[pK l,iv i] w (aA (iv (k.base num+i)) w):=by
 refine DY hl ⟨by omega,fun w1 hk1=>⟨(fB (h.kp0 hk1) h2).mono ?_⟩⟩
 rintro e w2 ⟨rfl,hk2⟩
 obtain⟨s,h3,h4,h5⟩:=h.ok.secs
 have hh:=k.half_le
 have e1:Int.tmod num 2=num%2:=Int.tmod_eq_emod_of_nonneg hnum
 have e2:IntKind.i64.wrap (num%2)=num%2:=aE (ae.2 (by omega))
 rw[e1,e2]
 have e3:((k.base num:Nat):Int)=2+num%2*(k.half:Int):=by
  unfold Dk.base
  rw[Int.natCast_add,Int.natCast_mul,Int.toNat_of_nonneg (by omega)]
  rfl
 have e4:num%2*(k.half:Int)=0∨num%2*(k.half:Int)=k.half:=by
  rcases Int.emod_two_eq num with h|h<;>rw[h]<;>simp
 refine⟨_,rfl,hk2,ae.2 (by omega),ae.2 (by omega),ae.2 (by omega),?_,hk1.trans hk2⟩
 rw[e3]
def bK:List Int:=List.replicate 64 0
def Dk.clearL(num:Int):Nat->Nat->Bool->Dk->Int×Dk
 |0,_,wr,k=>if wr=true then k.sync else (0,k)
 |f+1,i,wr,k =>
  if k.readE (k.base num+i:Nat)≠0 then (k.readE (k.base num+i:Nat),k)
  else if (aF k.now (k.base num+i)).any (fun x=>decide (x≠0))=true then
   if (k.write (k.base num+i) bK).1≠0 then k.write (k.base num+i) bK else Dk.clearL num f (i+1) true (k.write (k.base num+i) bK).2
  else Dk.clearL num f (i+1) wr k
def Dk.clear(k:Dk)(num:Int)(i:Nat):Int×Dk:=Dk.clearL num (k.half - i) i false k
theorem Dk.fails_n(k:Dk):k.fails.2.n=k.n:=by unfold Dk.fails;split;rfl;split<;>rfl
theorem Dk.fails_pend(k:Dk):k.fails.2.pend.length<=k.pend.length:=by
 unfold Dk.fails
 split
 ·exact Nat.zero_le _
 ·split<;>exact Nat.le_refl _
theorem Dk.write_n(k:Dk)(i:Nat)(b:List Int):(k.write i b).2.n=k.n:=by unfold Dk.write;split;rfl;exact Dk.fails_n _
theorem Dk.write_pend(k:Dk)(i:Nat)(b:List Int):(k.write i b).2.pend.length<=k.pend.length+1:=by
 unfold Dk.write
 split
 ·exact Nat.le_succ _
 ·have:=Dk.fails_pend (k.put i b)
  have e:(k.put i b).pend.length=k.pend.length+1:=by simp[Dk.put]
  exact Nat.le_trans this (by omega)
theorem Dk.sync_n(k:Dk):k.sync.2.n=k.n:=by unfold Dk.sync;split;rfl;split;exact Dk.fails_n _;exact Dk.fails_n k
theorem Dk.half_n{k k':Dk}(h:k'.n=k.n):k'.half=k.half:=by unfold Dk.half Dk.secs;rw[h]
theorem Dk.base_n{k k':Dk}(h:k'.n=k.n)(num:Int):k'.base num=k.base num:=by unfold Dk.base;rw[Dk.half_n h]
theorem Dk.base_le{k:Dk}{num:Int}{i:Nat}(h2:2<=k.n)(hi:i<k.half):k.base num+i<k.n:=by
 have hm:(num%2).toNat=0∨(num%2).toNat=1:=by omega
 have e:k.half=(k.n - 2) / 2:=rfl
 unfold Dk.base
 rcases hm with hm|hm<;>rw[hm]<;>omega
theorem vO{w:World}{b:Nat}{M:List Nat}(hb:w.heap[b]?=some (.cells (List.replicate 64 (Value.int .u8 0)).toArray 5 (0,0)))(hM:b∉M):R (au (tI .u8)) M w bK [sK b 64 64]:=by
 have hb':w.heap[b]?=some (.cells (bK.map (Value.int .u8)++[]).toArray 5 (0,0)):=by rw[hb];rfl
 exact R.ofBlk (c:=64) hb' hM (fun x hx=>by rw[(List.mem_replicate.1 hx).2];exact bC.2 (by omega)) (by decide) (by decide)
theorem fv{l:List Int}{i:Nat}(h:i*64+64<=l.length):(aF l i).length=64:=by unfold aF;simp;omega
set_option maxHeartbeats 1000000 in
theorem pF{M F:List Nat}{w:World}{d l:Nat}{k:Dk}{num nxt:Int}(h:bz M w d k F)(hl:aM w l d num nxt)(hlM:l∈M)(h2:2<=k.n)(hnum:0<=num){i0:Nat}(hi1:i0<=100000)(hpl:k.pend.length<=1000000):
 Calls Zz 57 #[pK l,iv i0] w fun e w'=>e=.returned (iv (k.clear num i0).1)/\gp M F w d (k.clear num i0).2 w':=by
 obtain⟨s,hs1,hs2,hs3⟩:=h.ok.secs
 have hhalf:=k.half_le
 refine x6 hl ⟨fun vs w'=>∃(i:Nat),∃wr k' F',vs=[.bool wr,iv (i:Int)]/\i<=100000/\(i<=k.half∨i=i0)/\bz M w' d k' F'/\ci F w F' w'/\aM w' l d num nxt/\k'.n=k.n/\k'.pend.length<=1000000+i/\
  Dk.clearL num (k.half - i) i wr k'=k.clear num i0,
  fun vs _=>match vs with|[_,.int _ i]=>k.half - i.toNat|_=>0,⟨i0,false,k,F,rfl,hi1,.inr rfl,h,ci.refl _ _,hl,rfl,by omega,rfl⟩,?_⟩
 rintro wr n1 w1 ⟨i,wr',k1,F1,hv,hi2,hi3,hD1,hO1,hL1,hn1,hp1,he1⟩
 simp only[List.cons.injEq,Value.int.injEq,Value.bool.injEq,true_and,and_true]at hv
 obtain⟨rfl,rfl⟩:=hv
 have hh1:=Dk.half_n hn1
 have hb1:=Dk.base_n hn1 num
 refine⟨(fB hD1 (by show 2<=k1.n;omega)).mono ?_⟩
 rintro e w2 ⟨rfl,hk2⟩
 refine⟨_,rfl,hk2,fun hlt w3 hk3 hl3=>?_,fun hge=>⟨fun hw=>?_,fun hw=>?_⟩⟩
 ·have hlt':i<k.half:=by omega
  have hbl:=Dk.base_le (k:=k1) (num:=num) (by omega) (i:=i) (by omega)
  have hD3:=hD1.kp0 (hk2.trans hk3)
  have hO3:=hO1.kp0 (hk2.trans hk3)
  refine⟨(jN hD3 hl3 (by omega) hnum (i:=i) (by omega) (by omega)).mono ?_⟩
  rintro e w4 ⟨rfl,hk4⟩
  have hD4:=hD3.kp0 hk4
  have ebi:((k1.base num:Nat):Int)+(i:Int)=((k1.base num+i:Nat):Int):=by omega
  rw[ebi]
  have e1:k.half - i=(k.half - (i+1))+1:=by omega
  rw[e1,Dk.clearL]at he1
  refine⟨_,rfl,hk4,⟨(kw hD4 (N:=F1) (fun b hb=>(hD4.own_lt b hb).1) ((k1.base num+i:Nat):Int)).mono ?_⟩⟩
  rintro e w5 ⟨a,n,c,rfl,hk5,hR⟩
  have hD5:=hD4.kp0 hk5
  have hO5:=(hO3.kp0 hk4).kp0 hk5
  refine⟨_,_,_,_,rfl,hk5,fun hne=>?_,fun hz=>?_⟩
  ·rw[if_pos hne]at he1
   refine⟨by rw[<-he1],?_⟩
   rw[<-he1]
   exact⟨_,hD5,hO5⟩
  have hz':=Classical.not_not.1 hz
  rw[if_neg hz]at he1
  have hC:=hR hz'
  have hn64:n=64:=by rw[hC.acc.len,Int.toNat_natCast];exact fv (by obtain⟨s,g1,g2,g3⟩:=hD5.ok.secs;omega)
  rw[Int.toNat_natCast]at hC
  refine⟨(ot (hC.acc.done (by have:az=140737488355328:=rfl;omega)) (C6 F1 w5)).mono ?_⟩
  rintro e w6 ⟨rfl,hk6⟩
  have hD6:=hD5.kp0 hk6
  have hO6:=hO5.kp0 hk6
  have hl6:aM w6 l d num nxt:=((aM.keep hl3 hk4 (by simp)).keep hk5 (by simp)).keep hk6 (by simp)
  have hsc:=hD6.ok.secs
  refine⟨_,rfl,hk6,fun hb=>?_,fun hb=>?_⟩
  ·rw[if_pos hb]at he1
   have fin:∀{wa wb:World} {e:Ending},ci F w F1 wa->aM wa l d num nxt->(e=.returned (iv (k1.write (k1.base num+i) bK).1)/\gp M F1 wa d (k1.write (k1.base num+i) bK).2 wb)->
    ∃n6,e=.returned (iv n6)/\∃l2,KpL l2 wa wb/\af l l2/\(n6≠0->(Ending.returned (iv n6)=.returned (iv (k.clear num i0).1)/\gp M F w d (k.clear num i0).2 wb))/\
    (¬n6≠0->ar .i64 ((i:Int)+1)/\(∃(j:Nat),∃wr k' F',[Value.bool true,Value.int .i64 ((i:Int)+1)]=[.bool wr,iv (j:Int)]/\j<=100000/\(j<=k.half∨j=i0)/\bz M wb d k' F'/\ci F w F' wb/\aM wb l d num nxt/\k'.n=k.n/\k'.pend.length<=1000000+j/\
      Dk.clearL num (k.half - j) j wr k'=k.clear num i0)/\k.half - ((i:Int)+1).toNat<k.half - (i:Int).toNat):=by
    rintro wa wb e hOa hLa ⟨rfl,F2,hD2,hO2⟩
    have hlF:l∉F1:=fun hm=>(hD1.own_lt l hm).2 hlM
    refine⟨_,rfl,F1,hO2.kp,⟨hlF⟩,fun hne=>?_,fun hz=>⟨ae.2 (by omega),⟨i+1,true,_,F2,by simp,by omega,.inl (by omega),hD2,hOa.trans hO2,hLa.keep hO2.kp hlF,(Dk.write_n _ _ _).trans hn1,?_,?_⟩,by omega⟩⟩
    ·rw[if_pos hne]at he1
     exact⟨by rw[<-he1],by rw[<-he1];exact⟨F2,hD2,hOa.trans hO2⟩⟩
    ·have:=Dk.write_pend k1 (k1.base num+i) bK;omega
    ·rw[if_neg hz]at he1;exact he1
   constructor
   ·intro w7 hk7 hl7
    refine⟨(jN (hD6.kp0 hk7) hl7 (by omega) hnum (i:=i) (by omega) (by omega)).mono ?_⟩
    rintro e w8 ⟨rfl,hk8⟩
    rw[ebi]
    refine⟨_,rfl,hk8,dT B7 (by omega) (by omega) (by omega) fun w9 hb9 hk9=>⟨_,_,_,rfl,_,hk9,⟨by simp⟩,⟨?_,trivial⟩,?_⟩⟩
    ·have hl9:aM w9 l d num nxt:=(aM.keep hl7 hk8 (by simp)).keep hk9 (by simp)
     exact ak hl9 0 _ rfl
    have hk69:=(hk7.trans hk8).trans hk9
    have hl9:aM w9 l d num nxt:=hl6.keep hk69 (by simp)
    have hz9:R (au (tI .u8)) (F1++[]) w9 bK [.slice (some ⟨w8.heap.size,0,none⟩) 64 64]:=vO hb9 fun hm=>by
     rw[List.append_nil]at hm
     have:=((hD6.kp0 (hk7.trans hk8)).own_lt _ hm).1
     omega
    exact⟨(ft (hD6.kp0 hk69) (by omega) (i:=k1.base num+i) (by obtain⟨s,g1,g2,g3⟩:=hsc;omega) hz9).mono fun e wb he=>fin (hO6.kp0 hk69) hl9 he⟩
   ·intro w7 hk7
    refine dT B7 (by omega) (by omega) (by omega) fun w9 hb9 hk9=>⟨_,_,_,rfl,_,hk9,⟨by simp⟩,⟨?_,trivial⟩,fun hl9=>?_⟩
    ·have hl9:aM w9 l d num nxt:=(hl6.keep hk7 (by simp)).keep hk9 (by simp)
     exact ak hl9 0 _ rfl
    refine⟨(jN (hD6.kp0 (hk7.trans hk9)) hl9 (by omega) hnum (i:=i) (by omega) (by omega)).mono ?_⟩
    rintro e w10 ⟨rfl,hk10⟩
    rw[ebi]
    have hk69:=(hk7.trans hk9).trans hk10
    have hz9:R (au (tI .u8)) (F1++[]) w10 bK [.slice (some ⟨w7.heap.size,0,none⟩) 64 64]:=(vO hb9 fun hm=>by
     rw[List.append_nil]at hm
     have:=((hD6.kp0 hk7).own_lt _ hm).1
     omega).kp0 hk10
    exact⟨_,rfl,hk10,⟨(ft (hD6.kp0 hk69) (by omega) (i:=k1.base num+i) (by obtain⟨s,g1,g2,g3⟩:=hsc;omega) hz9).mono fun e wb he=>fin (hO6.kp0 hk69) (hl6.keep hk69 (by simp)) he⟩⟩
  ·rw[if_neg (by rw[hb];exact Bool.false_ne_true)]at he1
   refine⟨ae.2 (by omega),⟨i+1,wr,k1,F1,by simp,by omega,.inl (by omega),hD6,hO6,hl6,hn1,by omega,he1⟩,?_⟩
   show k.half - ((i:Int)+1).toNat<k.half - (i:Int).toNat
   omega
 ·have e1:k.half - i=0:=by omega
  rw[e1,Dk.clearL,if_neg (by simpa using hw)]at he1
  rw[<-he1]
  exact⟨rfl,_,hD1.kp0 hk2,hO1.kp0 hk2⟩
 ·have e1:k.half - i=0:=by omega
  rw[e1,Dk.clearL,if_pos (by simpa using hw)]at he1
  refine⟨(iV (hD1.kp0 hk2) (by omega)).mono ?_⟩
  rintro e w3 ⟨rfl,F3,hD3,hO3⟩
  refine⟨_,rfl,_,hO3.kp,⟨fun hm=>(hD1.own_lt l hm).2 hlM⟩,?_,?_⟩
  ·rw[<-he1]
  ·rw[<-he1];exact⟨F3,hD3,(hO1.kp0 hk2).trans hO3⟩
end Go.Vc
namespace Go.Vc
open Go Go.Proofs
def dZ(b:List Int)(i:Nat):List Int:=(b.drop (i*64)).take 64++List.replicate (64 - ((b.drop (i*64)).take 64).length) 0
theorem iD(b:List Int)(i:Nat):(dZ b i).length=64:=by unfold dZ;simp;omega
theorem Cy{b:List Int}(h:eB b)(i:Nat):eB (dZ b i):=((h.drop _).take _).app fun x hx=>by rw[(List.mem_replicate.1 hx).2];exact bC.2 (by omega)
def Dk.add1L(at0:Nat)(b:List Int):Nat->Nat->Dk->Int×Dk
 |0,_,k=>k.sync
 |f+1,i,k=>if (k.write (at0+i) (dZ b i)).1≠0 then k.write (at0+i) (dZ b i) else Dk.add1L at0 b f (i+1) (k.write (at0+i) (dZ b i)).2
def aG(b:List Int):Nat:=(b.length+63) / 64
def bP(q:Int)(n:Nat):List Int:=q::((n / 65536%256:Nat):Int)::((n / 256%256:Nat):Int)::((n%256:Nat):Int)::(List.replicate 59 0++[q])
def Dk.add1(k:Dk)(num:Int)(nxt:Nat)(b:List Int):Int×Dk:=Dk.add1L (k.base num+nxt+1) b (aG b) 0 k
def Dk.add(k:Dk)(num:Int)(nxt:Nat)(q:Int)(b:List Int):Int×Dk :=
 if (k.add1 num nxt b).1≠0 then k.add1 num nxt b
 else if ((k.add1 num nxt b).2.write (k.base num+nxt) (bP q b.length)).1≠0 then (k.add1 num nxt b).2.write (k.base num+nxt) (bP q b.length)
 else ((k.add1 num nxt b).2.write (k.base num+nxt) (bP q b.length)).2.sync
theorem bz.news{M F N:List Nat}{w w':World}{d:Nat}{k:Dk}(h:bz M w d k F)(kp:KpL [] w w')(hN:∀b∈N,w.heap.size<=b/\b<w'.heap.size):bz (N++M) w' d k F :=
 h.step kp (by simp) fun b hb=>by
  rcases List.mem_append.1 hb with hb|hb
  ·exact⟨.inr (hN b hb).1,(hN b hb).2⟩
  ·exact⟨.inl hb,Nat.lt_of_lt_of_le (h.mlt b hb) kp.size⟩
theorem bz.weak{M M' F:List Nat}{w:World}{d:Nat}{k:Dk}(h:bz M w d k F)(hs:∀b∈M',b∈M):bz M' w d k F :=
 h.step (KpL.refl [] w) (by simp) fun b hb=>⟨.inl (hs b hb),h.mlt b (hs b hb)⟩
theorem bz.out{M F:List Nat}{w:World}{d:Nat}{k:Dk}(h:bz M w d k F){b:Nat}(hb:b∈M):af b F:=⟨fun hm=>(h.own_lt b hm).2 hb⟩
theorem Dk.add1L_n(at0:Nat)(b:List Int):∀(f i:Nat) (k:Dk),(Dk.add1L at0 b f i k).2.n=k.n
 |0,_,k=>k.sync_n
 |f+1,i,k=>by
  unfold Dk.add1L
  split
  ·exact k.write_n _ _
  ·rw[Dk.add1L_n at0 b f];exact k.write_n _ _
theorem yE{b:List Int}{i:Nat}{x:List Int}(hx:x=((b.drop (i*64)).take (b.length - i*64)).take (min (b.length - i*64) 64)):
 (List.replicate 64 (Value.int .u8 0)).take 0++(x.map (Value.int .u8)++(List.replicate 64 (Value.int .u8 0)).drop (0+(x.map (Value.int .u8)).length))=(dZ b i).map (Value.int .u8)++[]:=by
 have e1:x=(b.drop (i*64)).take 64:=by
  rw[hx,List.take_take]
  apply List.ext_getElem?
  intro j
  simp only[List.getElem?_take,List.getElem?_drop]
  split<;>split
  ·rfl
  ·omega
  ·rw[List.getElem?_eq_none (by omega)]
  ·rfl
 subst e1
 unfold dZ
 simp only[List.take_zero,List.nil_append,Nat.zero_add,List.length_map,List.drop_replicate,List.map_append,List.map_replicate,List.append_nil]
theorem CC{M F:List Nat}{w:World}{d l vn vb vl:Nat}{k:Dk}{num:Int}{nxt:Nat}{b:List Int}{ba:Option Addr}{bl bc:Nat}(h:bz M w d k F)(hl:aM w l d num nxt)
 (hvn:w.heap[vn]?=some (.cells #[iv (aG b)] 3 (0,0)))(hvb:w.heap[vb]?=some (.cells #[.slice ba bl bc] 33 (0,0)))(hvl:w.heap[vl]?=some (.cells #[pK l] 113 (0,0)))
 (hnd:[vn,vb,vl,l].Nodup)(hM:∀x∈[vn,vb,vl,l],x∈M)(hb:R (au (tI .u8)) F w b [.slice ba bl bc])(h2:2<=k.n)(hnum:0<=num)(hfit:nxt+aG b<k.half)(hpl:k.pend.length<=1000000):
 Calls Zz 108 #[pK vn,pK vb,pK vl] w fun e w'=>e=.returned (iv (k.add1 num nxt b).1)/\gp M F w d (k.add1 num nxt b).2 w':=by
 obtain⟨s,hs1,hs2,hs3⟩:=h.ok.secs
 have hhalf:=k.half_le
 obtain⟨rfl,hbc,_⟩:=hb.sl_len
 have hby:=hb.ints
 have hsec:b.length<=64*aG b/\64*aG b<=b.length+63:=by unfold aG;omega
 refine Cr ⟨hvn,hvb,hvl,hl⟩ hnd (by intro x hx;exact h.mlt x (hM x hx)) ⟨fun vs w'=>∃(i:Nat),∃k' F',vs=[iv (i:Int)]/\i<=aG b/\bz M w' d k' F'/\ci F w F' w'/\k'.n=k.n/\k'.pend.length<=1000000+i/\
  Dk.add1L (k.base num+nxt+1) b (aG b - i) i k'=k.add1 num nxt b,
  fun vs _=>match vs with|[.int _ i]=>aG b - i.toNat|_=>0,fun _=>⟨0,k,F,rfl,by omega,h,ci.refl _ _,rfl,by omega,rfl⟩,?_⟩
 rintro n1 w1 ⟨i,k1,F1,hv,hi,hD1,hO1,hn1,hp1,he1⟩
 obtain rfl:=v1 hv
 have hout:∀{wa:World} {F2:List Nat} {k2:Dk},bz M wa d k2 F2->af vn F2/\af vb F2/\af vl F2/\af l F2:=fun hD=>⟨hD.out (hM vn (by simp)),hD.out (hM vb (by simp)),hD.out (hM vl (by simp)),hD.out (hM l (by simp))⟩
 constructor
 ·intro hlt hkn
  refine dT B7 (by omega) (by omega) (by omega) fun w2 hb2 hk2=>⟨_,_,_,rfl,_,hk2,⟨⟨by simp⟩,⟨by simp⟩,⟨by simp⟩,⟨by simp⟩⟩,ae.2 (by omega),_,_,_,dq fE (l:=i*64) (h:=b.length) (.inl (by congr 2)) (.inr ⟨rfl,rfl⟩) (by omega) (by omega),fun hkn2=>?_⟩
  have hb1:R (au (tI .u8)) (F1++[]) w1 b [.slice ba b.length bc]:=hO1.data (by simpa using hb)
  have hRs:=(hb1.kp0 hk2).sub (i*64) b.length (by omega) (Nat.le_refl _)
  refine jy fE (arr:=List.replicate 64 (Value.int .u8 0)) hb2 (by show 0+64*1<=(List.replicate 64 (Value.int .u8 0)).length;simp) hRs fun w3 ly hfl hb3 hk3=>⟨_,rfl,_,hk3,?_,ae.2 (by omega),ae.2 (by omega),fun w4 hk4 hkn4=>?_⟩
  ·have hlt':∀x∈M,x≠w1.heap.size:=fun x hx he=>by have:=hD1.mlt x hx;omega
   exact⟨⟨by simpa using hlt' vn (hM vn (by simp))⟩,⟨by simpa using hlt' vb (hM vb (by simp))⟩,⟨by simpa using hlt' vl (hM vl (by simp))⟩,⟨by simpa using hlt' l (hM l (by simp))⟩⟩
  have hly:=eW hfl
  subst hly
  replace hb3:w3.heap[w1.heap.size]?=some (.cells ((dZ b i).map (Value.int .u8)++[]).toArray 5 (0,0)):=by
   rw[<-yE (b:=b) (i:=i) rfl]
   exact hb3
  have hk14:KpL [] w1 w4:=(hk2.more hk3 (by simp)).trans hk4
  have hD4:=hD1.kp0 hk14
  have hO4:=hO1.kp0 hk14
  refine⟨(jN hD4 hkn4.2.2.2 (by omega) hnum (i:=nxt+1+i) (by omega) (by omega)).mono ?_⟩
  rintro e w5 ⟨rfl,hk5⟩
  have hb1':=Dk.base_n hn1 num
  have ebi:((k1.base num:Nat):Int)+((nxt:Int)+1+(i:Int))=((k.base num+nxt+1+i:Nat):Int):=by omega
  rw[ebi]
  refine⟨_,rfl,hk5,fun hkn5=>?_⟩
  have hD5:=hD4.kp0 hk5
  have hRp:R (au (tI .u8)) (F1++[]) w5 (dZ b i) [.slice (some ⟨w1.heap.size,0,none⟩) 64 64]:=by
   have hb5:=((hk4.trans hk5).blk _ (ab hb3) (by simp)).trans hb3
   have:=R.ofBlk (M:=F1++[]) (c:=64) hb5 (fun hm=>by rw[List.append_nil]at hm;have:=(hD1.own_lt _ hm).1;omega) (Cy hby i) (Nat.le_of_eq (iD b i)) (by rw[iD];decide)
   rwa [iD]at this
  have hbl:=Dk.base_le (k:=k) (num:=num) (by omega) (i:=nxt+1+i) (by omega)
  refine⟨(ft hD5 (by omega) (i:=k.base num+nxt+1+i) (by obtain⟨s,g1,g2,g3⟩:=hD5.ok.secs;omega) hRp).mono ?_⟩
  rintro e w6 ⟨rfl,F6,hD6,hO6⟩
  have e1:aG b - i=(aG b - (i+1))+1:=by omega
  rw[e1,Dk.add1L]at he1
  refine⟨_,rfl,_,hO6.kp,hout hD5,fun hne _=>?_,fun hz=>⟨ae.2 (by omega),fun _=>⟨⟨i+1,_,F6,by simp,by omega,hD6,(hO4.kp0 hk5).trans hO6,(Dk.write_n _ _ _).trans hn1,?_,?_⟩,?_⟩⟩⟩
  ·rw[if_pos hne]at he1
   rw[<-he1]
   exact⟨rfl,F6,hD6,(hO4.kp0 hk5).trans hO6⟩
  ·have:=Dk.write_pend k1 (k.base num+nxt+1+i) (dZ b i);omega
  ·rw[if_neg hz]at he1;exact he1
  ·show aG b - ((i:Int)+1).toNat<aG b - (i:Int).toNat
   omega
 ·intro hge hkn
  have e1:aG b - i=0:=by omega
  rw[e1,Dk.add1L]at he1
  refine⟨(iV hD1 (by omega)).mono ?_⟩
  rintro e w3 ⟨rfl,F3,hD3,hO3⟩
  refine⟨_,rfl,_,hO3.kp,hout hD1,fun _=>?_⟩
  rw[<-he1]
  exact⟨rfl,F3,hD3,hO1.trans hO3⟩
theorem CT{M F:List Nat}{w:World}{d l vl vh:Nat}{k:Dk}{num:Int}{nxt:Nat}{b:List Int}{ba:Option Addr}{bc:Nat}(h:bz M w d k F)(hl:aM w l d num nxt)
 (hvl:w.heap[vl]?=some (.cells #[pK l] 113 (0,0)))(hvh:w.heap[vh]?=some (.cells #[.slice ba 64 bc] 33 (0,0)))
 (hnd:[vl,vh,l].Nodup)(hM:∀x∈[vl,vh,l],x∈M)(hb:R (au (tI .u8)) F w b [.slice ba 64 bc])(h2:2<=k.n)(hnum:0<=num)(hfit:nxt<k.half)(hpl:k.pend.length<=2000000):
 Calls Zz 110 #[pK vl,pK vh] w fun e w'=>e=.returned (iv (k.write (k.base num+nxt) b).1)/\gp M F w d (k.write (k.base num+nxt) b).2 w':=by
 obtain⟨s,hs1,hs2,hs3⟩:=h.ok.secs
 have hhalf:=k.half_le
 refine Da ⟨hvl,hvh,hl⟩ hnd (by intro x hx;exact h.mlt x (hM x hx)) fun w1 hk1 hl1=>⟨(jN (h.kp0 hk1) hl1 h2 hnum (i:=nxt) (by omega) (by omega)).mono ?_⟩
 rintro e w2 ⟨rfl,hk2⟩
 have hk12:=hk1.trans hk2
 have hbl:=Dk.base_le (k:=k) (num:=num) (by omega) (i:=nxt) (by omega)
 have ebi:((k.base num:Nat):Int)+(nxt:Int)=((k.base num+nxt:Nat):Int):=by omega
 rw[ebi]
 refine⟨_,rfl,hk2,⟨(ft (h.kp0 hk12) (by omega) (i:=k.base num+nxt) (by omega) (Mb:=[]) (by simpa using hb.kp0 hk12)).mono ?_⟩⟩
 rintro e w3 ⟨rfl,F3,hD3,hO3⟩
 exact⟨_,rfl,_,hO3.kp,⟨h.out (hM vl (by simp)),h.out (hM vh (by simp)),h.out (hM l (by simp))⟩,rfl,F3,hD3,(ci.of0 hk12).trans hO3⟩
end Go.Vc
namespace Go.Vc
open Go Go.Proofs
theorem zq{w:World}{b i T:Nat}{arr:List Value}{v:Value}(h:w.heap[b]?=some (.cells arr.toArray T (0,0)))(hi:i<arr.length):
 (∃l,ao w ((⟨b,0,none⟩:Addr).add (i*1)) l/\l.length=1)/\aq w ((⟨b,0,none⟩:Addr).add (i*1)) 1/\((⟨b,0,none⟩:Addr).add (i*1)).block=b/\
 (bL w ((⟨b,0,none⟩:Addr).add (i*1)) [v] 0).heap[b]?=some (.cells (arr.set i v).toArray T (0,0))/\KpL [b] w (bL w ((⟨b,0,none⟩:Addr).add (i*1)) [v] 0):=by
 rw[al,Nat.zero_add,Nat.mul_one]
 refine⟨⟨[arr[i]],ak h _ _ ?_,rfl⟩,bE h,rfl,?_,cK w ⟨b,i,none⟩ _⟩
 ·apply List.ext_getElem?
  intro j
  cases j with
  |zero=>simp[hi]
  |succ j=>simp;omega
 ·rw[cL h (by simp;omega),List.set_eq_take_append_cons_drop,if_pos hi]
  rfl
def Dr(M F:List Nat)(w:World)(l d:Nat)(num nxt:Int)(k:Dk)(w':World):Prop :=
 ∃F',bz M w' d k F'/\ci (l::F) w (l::F') w'/\aM w' l d num nxt
theorem xT(q:Int)(n:Nat)(c1 c2 c3:Int)(h1:c1=((n / 65536%256:Nat):Int))(h2:c2=((n / 256%256:Nat):Int))(h3:c3=((n%256:Nat):Int)):
 (((((List.replicate (64:Int).toNat (Value.int .u8 0)).set (0:Int).toNat (.int .u8 q)).set (63:Int).toNat (.int .u8 q)).set (1:Int).toNat (.int .u8 c1)).set (2:Int).toNat (.int .u8 c2)).set (3:Int).toNat (.int .u8 c3)=(bP q n).map (Value.int .u8)++[]:=by
 subst h1 h2 h3
 rfl
theorem xl{q:Int}(hq:ar .u8 q)(n:Nat):eB (bP q n):=by
 intro x hx
 simp only[bP,List.mem_cons,List.mem_append,List.mem_replicate,List.not_mem_nil,or_false]at hx
 rcases hx with rfl|rfl|rfl|rfl|⟨_,rfl⟩|rfl
 ·exact hq
 ·exact bC.2 (by omega)
 ·exact bC.2 (by omega)
 ·exact bC.2 (by omega)
 ·exact bC.2 (by omega)
 ·exact hq
set_option maxHeartbeats 2000000 in
theorem rf{M F:List Nat}{w:World}{d l:Nat}{k:Dk}{num:Int}{nxt:Nat}{q:Int}{b:List Int}{ba:Option Addr}{bl bc:Nat}(h:bz M w d k F)(hl:aM w l d num nxt)(hlM:l∈M)
 (hb:R (au (tI .u8)) (l::F) w b [.slice ba bl bc])(hq:ar .u8 q)(h2:2<=k.n)(hnum:0<=num)(hfit:nxt+aG b<k.half)(hpl:k.pend.length<=900000)(hps:(k.add1 num nxt b).2.pend.length<=1000000)
 (hps2:((k.add1 num nxt b).2.write (k.base num+nxt) (bP q b.length)).2.pend.length<=1000000):
 Calls Zz 52 #[pK l,.int .u8 q,.slice ba bl bc] w fun e w'=>e=.returned (iv (k.add num nxt q b).1)/\
  Dr M F w l d num (if (k.add num nxt q b).1=0 then nxt+1+aG b else nxt:Nat) (k.add num nxt q b).2 w':=by
 obtain⟨s,hs1,hs2,hs3⟩:=h.ok.secs
 have hhalf:=k.half_le
 obtain⟨rfl,hbc,_⟩:=hb.sl_len
 have hsec:b.length<=64*aG b/\64*aG b<=b.length+63:=by unfold aG;omega
 have hll:=ab hl
 have en:IntKind.i64.wrap (Int.tdiv ((b.length:Int)+64 - 1) 64)=(aG b:Int):=by
  rw[Int.tdiv_eq_ediv_of_nonneg (by omega)]
  have:((b.length:Int)+64 - 1) / 64=(aG b:Int):=by unfold aG;omega
  rw[this]
  exact aE (ae.2 (by omega))
 have hlF:l∉F:=fun hm=>(h.own_lt l hm).2 hlM
 refine Co hl ?_
 rw[en]
 intro k1 hk1 k2 hk2
 refine⟨ae.2 (by omega),ae.2 (by omega),by omega,fun k3 hk3 w1 hw1 hkn1=>?_⟩
 refine dT B7 (by omega) (by omega) (by omega) fun w2 hb2 hw2=>⟨_,_,_,rfl,_,hw2,⟨⟨by simp⟩,⟨by simp⟩,⟨by simp⟩,⟨by simp⟩⟩,fun k6 hk6=>?_⟩
 have l1:=ab hkn1.1
 have l2:=ab hkn1.2.1
 have l3:=ab hkn1.2.2.1
 have hs1':=hw1.size
 have hbh:=ab hb2
 have hlen:(List.replicate (64:Int).toNat (Value.int .u8 0)).length=64:=by simp
 generalize hH:w1.heap.size=H at *
 have nins:∀{x:Nat},x=H->af k6 [x]/\af k3 [x]/\af k2 [x]/\af k1 [x]/\af l [x]:=by
  rintro x rfl
  refine⟨⟨?_⟩,⟨?_⟩,⟨?_⟩,⟨?_⟩,⟨?_⟩⟩<;>simp only[List.mem_singleton]<;>omega
 refine⟨_,rfl,by omega,by omega,fun w3 hw3 hkn3=>?_⟩
 have hb3:=(hw3.blk H hbh (by simp)).trans hb2
 obtain⟨s1,s2,s3,s4,s5⟩:=zq (i:=(0:Int).toNat) (v:=.int .u8 q) hb3 (by rw[hlen];decide)
 refine⟨s1,s2,nins s3,?_⟩
 rintro w4 rfl
 intro hkn4
 refine⟨⟨ak hkn4.1 0 _ rfl,trivial⟩,_,rfl,by omega,by omega,fun _=>?_⟩
 obtain⟨t1,t2,t3,t4,t5⟩:=zq (i:=(63:Int).toNat) (v:=.int .u8 q) s4 (by rw[List.length_set,hlen];decide)
 refine⟨t1,t2,nins t3,?_⟩
 rintro w5 rfl
 refine⟨_,rfl,by omega,by omega,fun w6 hw6 hkn6=>?_⟩
 have hb6:=(hw6.blk H (ab t4) (by simp)).trans t4
 obtain⟨u1,u2,u3,u4,u5⟩:=zq (i:=(1:Int).toNat) (v:=.int .u8 (IntKind.u8.wrap ((b.length:Int).fdiv ((2 ^ 16:Nat):Int)))) hb6 (by rw[List.length_set,List.length_set,hlen];decide)
 refine⟨u1,u2,nins u3,?_⟩
 rintro w7 rfl
 intro hkn7
 refine⟨⟨ak hkn7.2.2.1 0 _ rfl,ak hkn7.2.2.1 0 _ rfl,ak hkn7.1 0 _ rfl,ak hkn7.1 0 _ rfl,trivial⟩,_,rfl,by omega,by omega,fun _=>?_⟩
 obtain⟨v1,v2,v3,v4,v5⟩:=zq (i:=(2:Int).toNat) (v:=.int .u8 (IntKind.u8.wrap ((b.length:Int).fdiv ((2 ^ 8:Nat):Int)))) u4 (by rw[List.length_set,List.length_set,List.length_set,hlen];decide)
 refine⟨v1,v2,nins v3,?_⟩
 rintro w8 rfl
 intro hkn8
 refine⟨⟨ak hkn8.2.2.1 0 _ rfl,ak hkn8.1 0 _ rfl,trivial⟩,_,rfl,by omega,by omega,fun _=>?_⟩
 obtain⟨x1,x2,x3,x4,x5⟩:=zq (i:=(3:Int).toNat) (v:=.int .u8 (IntKind.u8.wrap (b.length:Int))) v4 (by rw[List.length_set,List.length_set,List.length_set,List.length_set,hlen];decide)
 refine⟨x1,x2,nins x3,?_⟩
 intro w9 hw9 k7 hk7 w10 hw10 hkn10
 rw[<-hw9]at x4 x5
 have hb10:w10.heap[H]?=some (.cells ((bP q b.length).map (Value.int .u8)++[]).toArray 5 (0,0)):=by
  rw[hw10.blk H (ab x4) (by simp),x4,xT q b.length]
  ·rw[eU,jn];omega
  ·rw[eU,jn];omega
  ·rw[jn];omega
 have hkp:KpL [] w w10:=by
  have g:∀{a c:World},KpL [H] a c->w.heap.size<=H->KpL [] w a->KpL [] w c:=fun h1 h2 h3=>h3.more h1 (by intro x hx;simp at hx;exact .inr (by omega))
  have hwH:w.heap.size<=H:=hs1'
  exact(g x5 hwH (g v5 hwH (g u5 hwH ((g t5 hwH (g s5 hwH ((hw1.trans hw2).trans hw3))).trans hw6)))).trans hw10
 have hs9:H<w9.heap.size:=ab x4
 have hk6l:=ab hkn10.2.1
 have hk7l:=ab hkn10.1
 have hk6':k6<w9.heap.size:=by
  have:=ab hkn8.1
  have:=x5.size
  omega
 have hHF:∀x∈[k7,k6,k3,k2,k1],w.heap.size<=x/\x<w10.heap.size:=by
  have:=hw10.size
  have:=hw2.size
  intro x hx
  simp only[List.mem_cons,List.not_mem_nil,or_false]at hx
  rcases hx with rfl|rfl|rfl|rfl|rfl<;>omega
 have hD:=h.news hkp hHF
 have hbd:R (au (tI .u8)) F w10 b [.slice ba b.length bc]:=(hb.weak (by intro x hx;simp[hx])).kp0 hkp
 refine⟨(qR (b:=k7) (fs:=[(108,#[],#[pK k3,pK k2,pK k1]),(110,#[],#[pK k1,pK k6]),(37,#[pK d],#[])])
  (T:=49) hkn10.1 (by simp) (c:=3) (R:=fun e w'=>∃n1,e=.returned (iv n1)/\n1=(k.add num nxt q b).1/\gp ([k7,k6,k3,k2,k1]++M) F w10 d (k.add num nxt q b).2 w') ?_).mono ?_⟩
 ·
  have hM:∀x∈[k7,k6,k3,k2,k1,l],x∈[k7,k6,k3,k2,k1]++M:=by
   intro x hx
   simp only[List.mem_cons,List.not_mem_nil,or_false]at hx
   rcases hx with rfl|rfl|rfl|rfl|rfl|rfl<;>simp[hlM]
  have hdis:k3≠k2/\k3≠k1/\k2≠k1:=by
   have e3:_=_:=hkn10.2.2.1
   have e2:_=_:=hkn10.2.2.2.1
   have e1:_=_:=hkn10.2.2.2.2.1
   refine⟨?_,?_,?_⟩
   ·rintro rfl;rw[e3]at e2;simp at e2
   ·rintro rfl;rw[e3]at e1;simp at e1
   ·rintro rfl;rw[e2]at e1;simp at e1
  have hs2':=hw2.size
  refine⟨⟨_,_,Tryz.func108,rfl⟩,⟨(CC hD hkn10.2.2.2.2.2 hkn10.2.2.1 hkn10.2.2.2.1 hkn10.2.2.2.2.1 (by simp;omega) (fun x hx=>hM x (by simp at hx ⊢;omega)) hbd h2 hnum hfit (by omega)).mono ?_⟩⟩
  rintro e wa ⟨rfl,Fa,hDa,hOa⟩
  refine⟨_,_,rfl,hOa.kp,hD.out (by simp),fun hne=>⟨_,rfl,?_,?_⟩,fun hz=>?_⟩
  ·unfold Dk.add;rw[if_pos hne]
  ·unfold Dk.add;rw[if_pos hne];exact⟨Fa,hDa,hOa⟩
  have hna:(k.add1 num nxt b).2.n=k.n:=Dk.add1L_n _ _ _ _ _
  have hka:∀{x:Nat},x∈[k7,k6,k3,k2,k1,l]->x<w10.heap.size->wa.heap[x]?=w10.heap[x]?:=fun hx hlt=>hOa.kp.blk _ hlt (hD.out (hM _ hx)).no
  have hRh:R (au (tI .u8)) Fa wa (bP q b.length) [sK H 64 64]:=by
   have hHf:H∉F:=fun hm=>by have:=(h.own_lt H hm).1;omega
   have hR0:R (au (tI .u8)) (F++[]) w10 (bP q b.length) [sK H 64 64]:=R.ofBlk (bs:=bP q b.length) (c:=64) hb10 (by simpa using hHf) (xl hq _) (by simp[bP]) (by simp[bP,az])
   exact(hOa.data hR0).weak (by intro x hx;simp[hx])
  have hba:=Dk.base_n hna num
  have hha:=Dk.half_n hna
  refine⟨⟨_,_,Tryz.func110,rfl⟩,⟨(CT hDa (num:=num) (nxt:=nxt) (l:=l) (vl:=k1) (vh:=k6) ((hka (by simp) (ab hkn10.2.2.2.2.2)).trans hkn10.2.2.2.2.2) ((hka (by simp) (ab hkn10.2.2.2.2.1)).trans hkn10.2.2.2.2.1) ((hka (by simp) hk6l).trans hkn10.2.1)
   (by simp;omega) (fun x hx=>hM x (by simp at hx ⊢;omega)) hRh (by omega) hnum (by omega) (by omega)).mono ?_⟩⟩
  rw[hba]
  rintro e wb ⟨rfl,Fb,hDb,hOb⟩
  refine⟨_,_,rfl,hOb.kp,hDa.out (by simp),fun hne=>⟨_,rfl,?_,?_⟩,fun hz2=>?_⟩
  ·unfold Dk.add;rw[if_neg (by simp[hz]),if_pos hne]
  ·unfold Dk.add;rw[if_neg (by simp[hz]),if_pos hne];exact⟨Fb,hDb,hOa.trans hOb⟩
  refine⟨⟨_,_,Tryz.func37,rfl⟩,⟨(iV hDb (by omega)).mono ?_⟩⟩
  rintro e wc ⟨rfl,Fc,hDc,hOc⟩
  have hfin:k.add num nxt q b=((k.add1 num nxt b).2.write (k.base num+nxt) (bP q b.length)).2.sync:=by
   unfold Dk.add;rw[if_neg (by simp[hz]),if_neg (by simp[hz2])]
  refine⟨_,_,rfl,hOc.kp,hDb.out (by simp),fun hne=>⟨_,rfl,by rw[hfin],by rw[hfin];exact⟨Fc,hDc,(hOa.trans hOb).trans hOc⟩⟩,fun hz3=>?_⟩
  exact⟨_,rfl,by rw[hfin,hz3],by rw[hfin];exact⟨Fc,hDc,(hOa.trans hOb).trans hOc⟩⟩
 ·rintro e w11 ⟨n1,rfl,hn1,F',hD',hO'⟩
  subst hn1
  have hl11:aM w11 l d num nxt:=aM.keep hkn10.2.2.2.2.2 hO'.kp hlF
  have hOw:ci F w F' w11:=(ci.of0 hkp).trans hO'
  refine⟨_,rfl,F,hO'.kp,⟨hD.out (by simp),hD.out (by simp),hD.out (by simp),hD.out (by simp),⟨hlF⟩⟩,fun hz=>⟨ae.2 (by omega),ae.2 (by omega),fun w12 hw12 hkn12=>⟨rfl,?_⟩⟩,fun hne _=>⟨rfl,?_⟩⟩
  ·refine⟨F',(hD'.weak (fun x hx=>List.mem_append_right _ hx)).step hw12 (by simpa using hlM) (fun x hx=>⟨.inl hx,?_⟩),⟨?_,?_⟩,?_⟩
   ·have:=hD'.mlt x (List.mem_append_right _ hx);have:=hw12.size;omega
   ·exact(hOw.kp.mono (by intro x hx;simp[hx])).trans (hw12.mono (by simp))
   ·intro x hx
    rcases List.mem_cons.1 hx with rfl|hx
    ·simp
    ·exact(hOw.new x hx).imp (fun h=>by simp[h]) id
   ·rw[if_pos hz]
    have:=hkn12.2.2.2.2
    unfold aM
    rw[this]
    have e:(nxt:Int)+(1+(aG b:Int))=((nxt+1+aG b:Nat):Int):=by omega
    rw[e]
  ·refine⟨F',hD'.weak (fun x hx=>List.mem_append_right _ hx),⟨hOw.kp.mono (by intro x hx;simp[hx]),?_⟩,by rw[if_neg hne];exact hl11⟩
   intro x hx
   rcases List.mem_cons.1 hx with rfl|hx
   ·simp
   ·exact(hOw.new x hx).imp (fun h=>by simp[h]) id
end Go.Vc
namespace Go.Vc
open Go Go.Proofs
theorem Ap{x y:Nat}(hx:x<2 ^ 62)(hy:y<2 ^ 62):aX .or .i64 (x:Int) (y:Int)=((x ||| y:Nat):Int):=by
 have h1:(BitVec.ofInt 64 (x:Int) ||| BitVec.ofInt 64 (y:Int)).toNat=x ||| y:=by
  rw[BitVec.toNat_or,BitVec.toNat_ofInt,BitVec.toNat_ofInt]
  congr 1<;>omega
 have h2:x ||| y<2 ^ 62:=Nat.or_lt_two_pow hx hy
 show IntKind.i64.wrap (((BitVec.ofInt 64 (x:Int) ||| BitVec.ofInt 64 (y:Int)).toNat:Nat):Int)=_
 rw[h1]
 exact aE (ae.2 (by omega))
theorem Bq{a b c:Int}(ha:ar .u8 a)(hb:ar .u8 b)(hc:ar .u8 c):
 aX .or .i64 (aX .or .i64 (IntKind.i64.wrap (a*((2 ^ 16:Nat):Int))) (IntKind.i64.wrap (b*((2 ^ 8:Nat):Int)))) c=a*65536+b*256+c:=by
 rw[bC]at ha hb hc
 obtain⟨x,rfl⟩:∃x:Nat,a=x:=⟨a.toNat,by omega⟩
 obtain⟨y,rfl⟩:∃x:Nat,b=x:=⟨b.toNat,by omega⟩
 obtain⟨z,rfl⟩:∃x:Nat,c=x:=⟨c.toNat,by omega⟩
 rw[aE (ae.2 (by omega)),aE (ae.2 (by omega))]
 have e1:(x:Int)*((2 ^ 16:Nat):Int)=((2 ^ 16*x:Nat):Int):=by omega
 have e2:(y:Int)*((2 ^ 8:Nat):Int)=((2 ^ 8*y:Nat):Int):=by omega
 rw[e1,e2,Ap (by omega) (by omega),<-Nat.two_pow_add_eq_or_of_lt (i:=16) (b:=2 ^ 8*y) (by omega) x,Ap (by omega) (by omega)]
 have e3:2 ^ 16*x+2 ^ 8*y=2 ^ 8*(256*x+y):=by omega
 rw[e3,<-Nat.two_pow_add_eq_or_of_lt (i:=8) (b:=z) (by omega)]
 omega
def cu(h:List Int):Nat:=(h.getD 1 0*65536+h.getD 2 0*256+h.getD 3 0).toNat
def Dk.partsOf(k:Dk)(at0:Nat):Nat->List Int
 |0=>[]
 |n+1=>Dk.partsOf k at0 n++aF k.now (at0+n)
def Dk.readRec(k:Dk)(num:Int)(i:Nat):Int×List Int×Nat×Int :=
 if k.half<=i then (0,[],0,0)
 else if k.readE (k.base num+i:Nat)≠0 then (0,[],0,k.readE (k.base num+i:Nat))
 else if (aF k.now (k.base num+i)).getD 0 0≠(aF k.now (k.base num+i)).getD 63 0 then (0,[],0,0)
 else if k.half<=i+(cu (aF k.now (k.base num+i))+63) / 64 then (0,[],0,0)
 else ((aF k.now (k.base num+i)).getD 0 0,(k.partsOf (k.base num+i+1) ((cu (aF k.now (k.base num+i))+63) / 64)).take (cu (aF k.now (k.base num+i))),
  i+1+(cu (aF k.now (k.base num+i))+63) / 64,0)
theorem Dk.partsOf_len{k:Dk}{at0:Nat}:∀{n:Nat},(at0+n)*64<=k.now.length->(k.partsOf at0 n).length=64*n
 |0,_=>rfl
 |n+1,h=>by
  rw[Dk.partsOf,List.length_append,Dk.partsOf_len (by omega),fv (by omega)]
  omega
theorem AZ{l:List Int}{i:Nat}(h:i<l.length):l.getD i 0=l[i]:=by simp[h]
theorem aZ.wide{α:Type}{e:Ty α}{M:List Nat}{w0 w1 w:World}{xs:List α}{a:Option Addr}{n c:Nat}(h:aZ e M w1 none xs a n c w)(k:KpL [] w0 w1):aZ e M w0 none xs a n c w :=
 ⟨h.acc,k.trans h.kp,fun b hb=>.inr (by
   have:=k.size
   rcases h.own b hb with h1|h1
   ·simp[aj]at h1
   ·omega)⟩
set_option maxHeartbeats 2000000 in
theorem rH{M F N:List Nat}{w:World}{d l:Nat}{k:Dk}{num nxt:Int}(h:bz M w d k F)(hl:aM w l d num nxt)(h2:2<=k.n)(hnum:0<=num)(hN:∀b∈N,b<w.heap.size){i:Nat}(hi:i<=100000):
 Calls Zz 64 #[pK l,iv i] w fun e w'=>∃a n c,e=.returned (.tuple #[.int .u8 (k.readRec num i).1,.slice a n c,iv (k.readRec num i).2.2.1,iv (k.readRec num i).2.2.2])/\KpL [] w w'/\
  R (au (tI .u8)) N w' (k.readRec num i).2.1 [.slice a n c]:=by
 obtain⟨s,hs1,hs2,hs3⟩:=h.ok.secs
 have hhalf:=k.half_le
 have hnil:∀(w':World),R (au (tI .u8)) N w' [] [.slice none 0 0]:=fun w'=>R.sl_nil _ _ _ _ _
 refine AP hl fun _=>⟨(fB h h2).mono ?_⟩
 rintro e w1 ⟨rfl,hk1⟩
 refine⟨_,rfl,hk1,fun hge _=>?_,fun hlt w2 hk2 hl2=>?_⟩
 ·have e1:k.readRec num i=(0,[],0,0):=by unfold Dk.readRec;rw[if_pos (by omega)]
  rw[e1]
  exact⟨_,_,_,rfl,hk1,hnil _⟩
 have hbl:=Dk.base_le (k:=k) (num:=num) (by omega) (i:=i) (by omega)
 have hk02:=hk1.trans hk2
 refine⟨(jN (h.kp0 hk02) hl2 h2 hnum (i:=i) (by omega) (by omega)).mono ?_⟩
 rintro e w3 ⟨rfl,hk3⟩
 have hk03:=hk02.trans hk3
 have ebi:((k.base num:Nat):Int)+(i:Int)=((k.base num+i:Nat):Int):=by omega
 rw[ebi]
 refine⟨_,rfl,hk3,fun hl3=>⟨(kw (h.kp0 hk03) (N:=[]) (by simp) _).mono ?_⟩⟩
 rintro e w4 ⟨a,n,c,rfl,hk4,hR⟩
 have hk04:=hk03.trans hk4
 refine⟨_,_,_,_,rfl,hk4,fun hne _=>?_,fun hz=>?_⟩
 ·have e1:k.readRec num i=(0,[],0,k.readE (k.base num+i:Nat)):=by unfold Dk.readRec;rw[if_neg (by omega),if_pos hne]
  rw[e1]
  exact⟨_,_,_,rfl,hk04,hnil _⟩
 have hz':=Classical.not_not.1 hz
 have hC:=hR hz'
 rw[Int.toNat_natCast]at hC
 have hsl:(aF k.now (k.base num+i)).length=64:=fv (by omega)
 have hn64:n=64:=by rw[hC.acc.len,hsl]
 subst hn64
 have hmx:az=140737488355328:=rfl
 have hRh:=hC.acc.done (by omega)
 generalize hHD:aF k.now (k.base num+i)=hd at *
 have get:∀{j:Nat} {w':World},j<64->KpL [] w4 w'->∃ad,a=some ad/\ao w' (ad.add (j*1)) [.int .u8 (hd.getD j 0)]/\ar .u8 (hd.getD j 0):=by
  intro j w' hj hk
  obtain⟨ad,cs,h1,hv,hld,_,_⟩:=(hRh.kp0 hk).sl_get (i:=j) (by omega)
  obtain⟨rfl,hin⟩:=hv.intD
  rw[AZ (by omega)]
  exact⟨ad,h1,hld,hin⟩
 obtain⟨ad,rfl,g0,i0⟩:=get (j:=(0:Int).toNat) (by decide) (KpL.refl [] w4)
 obtain⟨ad',h63,g63,i63⟩:=get (j:=(63:Int).toNat) (by decide) (KpL.refl [] w4)
 obtain⟨ad1,h1',g1,i1⟩:=get (j:=(1:Int).toNat) (by decide) (KpL.refl [] w4)
 obtain⟨ad2,h2',g2,i2⟩:=get (j:=(2:Int).toNat) (by decide) (KpL.refl [] w4)
 obtain⟨ad3,h3',g3,i3⟩:=get (j:=(3:Int).toNat) (by decide) (KpL.refl [] w4)
 simp only[Option.some.injEq]at h63 h1' h2' h3'
 subst h63 h1' h2' h3'
 refine⟨ad,rfl,by omega,by omega,_,g0,ad,rfl,by omega,by omega,_,g63,fun hne w5 hk5 _=>?_,fun heq=>?_⟩
 ·have e1:k.readRec num i=(0,[],0,0):=by unfold Dk.readRec;rw[if_neg (by omega),if_neg hz,hHD,if_pos (show hd.getD 0 0≠hd.getD 63 0 from hne)]
  rw[e1]
  exact⟨_,_,_,rfl,hk04.trans hk5,hnil _⟩
 refine⟨ad,rfl,by omega,by omega,_,g1,ae.2 (by rw[bC]at i1;omega),ad,rfl,by omega,by omega,_,g2,ae.2 (by rw[bC]at i2;omega),ad,rfl,by omega,by omega,_,g3,ae.2 (by rw[bC]at i3;omega),?_⟩
 rw[Bq i1 i2 i3]
 have hsz:hd.getD (1:Int).toNat 0*65536+hd.getD (2:Int).toNat 0*256+hd.getD (3:Int).toNat 0=(cu hd:Int):=by
  have:cu hd=(hd.getD 1 0*65536+hd.getD 2 0*256+hd.getD 3 0).toNat:=rfl
  rw[this]
  rw[bC]at i1 i2 i3
  rw[Int.toNat_of_nonneg]
  ·rfl
  ·have e1:hd.getD (1:Int).toNat 0=hd.getD 1 0:=rfl
   have e2:hd.getD (2:Int).toNat 0=hd.getD 2 0:=rfl
   have e3:hd.getD (3:Int).toNat 0=hd.getD 3 0:=rfl
   rw[e1]at i1;rw[e2]at i2;rw[e3]at i3
   omega
 have hszl:cu hd<16777216:=by
  rw[bC]at i1 i2 i3
  omega
 rw[hsz]
 have en:IntKind.i64.wrap (Int.tdiv ((cu hd:Int)+64 - 1) 64)=(((cu hd+63) / 64:Nat):Int):=by
  rw[Int.tdiv_eq_ediv_of_nonneg (by omega)]
  have:((cu hd:Int)+64 - 1) / 64=(((cu hd+63) / 64:Nat):Int):=by omega
  rw[this]
  exact aE (ae.2 (by omega))
 rw[en]
 generalize hnn:(cu hd+63) / 64=nn at *
 refine⟨ae.2 (by omega),ae.2 (by omega),by omega,ae.2 (by omega),fun w6 hk6 hl6=>⟨(fB (h.kp0 (hk04.trans hk6)) h2).mono ?_⟩⟩
 rintro e w7 ⟨rfl,hk7⟩
 have hk07:=(hk04.trans hk6).trans hk7
 refine⟨_,rfl,hk7,fun hge _=>?_,fun hlt2=>?_⟩
 ·have e1:k.readRec num i=(0,[],0,0):=by unfold Dk.readRec;rw[if_neg (by omega),if_neg hz,hHD,if_neg (show ¬(hd.getD 0 0≠hd.getD 63 0) from heq),hnn,if_pos (by omega)]
  rw[e1]
  exact⟨_,_,_,rfl,hk07,hnil _⟩
 have hdn:k.down=false:=by
  unfold Dk.readE at hz'
  split at hz'
  ·omega
  ·split at hz'
   ·omega
   ·rename_i hd;simpa using hd
 have e1:k.readRec num i=(hd.getD 0 0,(k.partsOf (k.base num+i+1) nn).take (cu hd),i+1+nn,0):=by
  unfold Dk.readRec;rw[if_neg (by omega),if_neg hz,hHD,if_neg (show ¬(hd.getD 0 0≠hd.getD 63 0) from heq),hnn,if_neg (by omega)]
 have hbl2:=Dk.base_le (k:=k) (num:=num) (by omega) (i:=i+nn) (by omega)
 have hNl:∀{w':World},KpL [] w w'->∀b∈N,b<w'.heap.size:=fun hk b hb=>Nat.lt_of_lt_of_le (hN b hb) hk.size
 refine⟨fun vs w'=>∃(j:Nat),∃a2 n2 c2,vs=[.slice a2 n2 c2,iv (j:Int)]/\j<=nn/\KpL [] w7 w'/\aM w' l d num nxt/\aZ (tI .u8) N w7 none (k.partsOf (k.base num+i+1) j) a2 n2 c2 w',
  fun vs _=>match vs with|[_,.int _ j]=>nn - j.toNat|_=>0,fun hl7=>⟨0,_,_,_,rfl,by omega,KpL.refl _ _,hl7,⟨bI.nil' _ (hNl hk07),KpL.refl _ _,by simp[aj]⟩⟩,?_⟩
 rintro a2 k3 k4 n10 w8 ⟨j,_,_,_,hv,hj,hk8,hl8,hC8⟩
 simp only[List.cons.injEq,Value.slice.injEq,Value.int.injEq,true_and,and_true]at hv
 obtain⟨⟨rfl,rfl,rfl⟩,rfl⟩:=hv
 have hk08:=hk07.trans hk8
 have hlen8:=hC8.acc.len
 rw[Dk.partsOf_len (by omega)]at hlen8
 constructor
 ·intro hlt3
  refine⟨ae.2 (by omega),ae.2 (by omega),fun w9 hk9 hl9=>⟨(jN (h.kp0 (hk08.trans hk9)) hl9 h2 hnum (i:=i+1+j) (by omega) (by omega)).mono ?_⟩⟩
  rintro e w10 ⟨rfl,hk10⟩
  have hk010:=(hk08.trans hk9).trans hk10
  have ebj:((k.base num:Nat):Int)+((i:Int)+1+(j:Int))=((k.base num+i+1+j:Nat):Int):=by omega
  rw[ebj]
  have hre:k.readE ((k.base num+i+1+j:Nat):Int)=0:=by
   unfold Dk.readE
   rw[if_neg (by unfold Dk.secs;omega),if_neg (by simp[hdn])]
  refine⟨_,rfl,hk10,fun hl10=>⟨(kw (h.kp0 hk010) (N:=[]) (by simp) _).mono ?_⟩⟩
  rintro e w11 ⟨a3,n3,c3,rfl,hk11,hR11⟩
  refine⟨_,_,_,_,rfl,hk11,fun hne=>absurd hre hne,fun _ hl11=>?_⟩
  have hC11:=hR11 hre
  rw[Int.toNat_natCast]at hC11
  have hn3:n3=64:=by rw[hC11.acc.len];exact fv (by omega)
  have hk811:=(hk9.trans hk10).trans hk11
  have hC8':=hC8.kp0 hk811
  obtain⟨ly,hS⟩:=(hC11.acc.done (by omega)).srcsP (P:=Zz) (M':=aj a2++N) jh (KpL.refl [] w11)
  refine cN B9 hC8'.acc hS (by omega) fun a4 c4 w12 hC12=>⟨_,_,_,rfl,_,hC12.kp,⟨fun hm=>?_⟩,ae.2 (by omega),fun hl12=>⟨⟨j+1,a4,k3+n3,c4,by simp,by omega,?_,hl12,?_⟩,?_⟩⟩
  ·rcases hC8'.own l hm with hm|hm
   ·simp[aj]at hm
   ·have:=ab hl;have:=hk07.size;omega
  ·exact hC8'.kpn.more hC12.kp fun x hx=>(hC8'.own x hx).imp (by simp[aj]) id
  ·exact hC8'.trans hC12
  ·show nn - ((j:Int)+1).toNat<nn - (j:Int).toNat
   omega
 ·intro hge3
  have hjn:j=nn:=by omega
  subst hjn
  obtain⟨_,he,g0',_⟩:=get (j:=(0:Int).toNat) (by decide) ((hk6.trans hk7).trans hk8)
  simp only[Option.some.injEq]at he
  subst he
  refine⟨ad,rfl,by omega,by omega,_,g0',_,_,_,dq fE (l:=0) (h:=cu hd) (.inr ⟨rfl,rfl⟩) (.inl rfl) (by omega) (by have:=hC8.acc.cap;omega),ae.2 (by omega),ae.2 (by omega),fun w13 hk13 _=>?_⟩
  rw[e1]
  have hRr:=(hC8.acc.done (by omega)).sub 0 (cu hd) (by omega) (by omega)
  rw[List.drop_zero,Nat.sub_zero]at hRr
  refine⟨_,_,_,?_,hk08.trans hk13,hRr.kp0 hk13⟩
  have e2:(i:Int)+1+(j:Int)=((i+1+j:Nat):Int):=by omega
  rw[e2]
  rfl
end Go.Vc
namespace Go.Vc
open Go Go.Proofs
def fe(num:Int)(i:Nat):Int:=num / ((2 ^ (8*(7 - i)):Nat):Int)%256
def fA(num:Int)(m:Nat):List Int:=(List.range 64).map fun j=>if j<m then fe num j else if 56<=j/\j<56+m then fe num (j - 56) else 0
def dj(num:Int):List Int:=fA num 8
def Dk.note(k:Dk)(num:Int):Int×Dk:=if (k.write (num%2).toNat (dj num)).1≠0 then k.write (num%2).toNat (dj num) else (k.write (num%2).toNat (dj num)).2.sync
theorem rJ(num:Int)(i:Nat):ar .u8 (fe num i):=bC.2 (by unfold fe;omega)
theorem jf(num:Int)(m:Nat):(fA num m).length=64:=by simp[fA]
theorem Af(num:Int)(m:Nat):eB (fA num m):=by
 intro x hx
 simp only[fA,List.mem_map,List.mem_range]at hx
 obtain⟨j,_,rfl⟩:=hx
 split
 ·exact rJ _ _
 ·split
  ·exact rJ _ _
  ·exact bC.2 (by omega)
theorem uE(num:Int):List.replicate (64:Int).toNat (Value.int .u8 0)=(fA num 0).map (Value.int .u8):=by
 apply List.ext_getElem?
 intro j
 simp only[fA,List.getElem?_map,List.getElem?_replicate]
 by_cases hj:j<64
 ·rw[if_pos (show j<(64:Int).toNat from hj),List.getElem?_eq_getElem (by simpa using hj)]
  simp
  omega
 ·rw[if_neg (show ¬j<(64:Int).toNat from hj),List.getElem?_eq_none (by simp;omega)]
  rfl
theorem uf(num:Int){m i j:Nat}(hm:m<8)(hi:i=m)(hj:j=56+m){v:Int}(hv:v=fe num m):
 (((fA num m).map (Value.int .u8)).set i (.int .u8 v)).set j (.int .u8 v)=(fA num (m+1)).map (Value.int .u8):=by
 subst hi hj hv
 rw[<-List.map_set,<-List.map_set]
 congr 1
 apply List.ext_getElem
 ·simp[fA]
 intro x h1 h2
 simp only[fA,List.length_map,List.length_range]at h2
 simp only[List.getElem_set,fA,List.getElem_map,List.getElem_range]
 by_cases e1:56+i=x
 ·subst e1
  rw[if_pos rfl,if_neg (by omega),if_pos (by omega)]
  congr 1
  omega
 ·rw[if_neg e1]
  by_cases e2:i=x
  ·subst e2
   rw[if_pos rfl,if_pos (by omega)]
  ·rw[if_neg e2]
   (repeat' split)<;>first
    |rfl
    |(exfalso;omega)
theorem AT{M F:List Nat}{w:World}{d l vl vh:Nat}{k:Dk}{num nxt:Int}{b:List Int}{ba:Option Addr}{bc:Nat}(h:bz M w d k F)(hl:aM w l d num nxt)
 (hvl:w.heap[vl]?=some (.cells #[pK l] 113 (0,0)))(hvh:w.heap[vh]?=some (.cells #[.slice ba 64 bc] 33 (0,0)))
 (hnd:[vl,vh,l].Nodup)(hM:∀x∈[vl,vh,l],x∈M)(hb:R (au (tI .u8)) F w b [.slice ba 64 bc])(h2:2<=k.n)(hnum:0<=num)(hpl:k.pend.length<=2000000):
 Calls Zz 123 #[pK vl,pK vh] w fun e w'=>e=.returned (iv (k.write (num%2).toNat b).1)/\gp M F w d (k.write (num%2).toNat b).2 w':=by
 obtain⟨s,hs1,hs2,hs3⟩:=h.ok.secs
 refine An ⟨hvl,hvh,hl⟩ hnd (by intro x hx;exact h.mlt x (hM x hx)) ⟨by omega,fun w1 hk1=>?_⟩
 have e1:IntKind.i64.wrap (Int.tmod num 2)=(((num%2).toNat:Nat):Int):=by
  rw[Int.tmod_eq_emod_of_nonneg hnum,aE (ae.2 (by omega))]
  omega
 rw[e1]
 refine⟨(ft (h.kp0 hk1) (by omega) (i:=(num%2).toNat) (by omega) (Mb:=[]) (by simpa using hb.kp0 hk1)).mono ?_⟩
 rintro e w3 ⟨rfl,F3,hD3,hO3⟩
 exact⟨_,rfl,_,hO3.kp,⟨h.out (hM vl (by simp)),h.out (hM vh (by simp)),h.out (hM l (by simp))⟩,rfl,F3,hD3,(ci.of0 hk1).trans hO3⟩
set_option maxHeartbeats 2000000 in
theorem rX{M F:List Nat}{w:World}{d l:Nat}{k:Dk}{num nxt:Int}(h:bz M w d k F)(hl:aM w l d num nxt)(hlM:l∈M)(h2:2<=k.n)(hnum:0<=num)(hpl:k.pend.length<=1000000):
 Calls Zz 60 #[pK l] w fun e w'=>e=.returned (iv (k.note num).1)/\gp M F w d (k.note num).2 w':=by
 have hll:=ab hl
 have hlF:l∉F:=fun hm=>(h.own_lt l hm).2 hlM
 refine AQ hl fun k1 hk1 w1 hw1 hkn1=>dT B7 (by omega) (by omega) (by omega) fun w2 hb2 hw2=>⟨_,_,_,rfl,_,hw2,⟨⟨by simp⟩,⟨by simp⟩⟩,fun k4 hk4=>?_⟩
 have l1:=ab hkn1.1
 have hs1':=hw1.size
 have hbh:=ab hb2
 generalize hH:w1.heap.size=H at *
 have hkn2:w2.heap[k1]?=some (.cells #[pK l] 113 (0,0)):=(hw2.blk k1 (by omega) (by simp)).trans hkn1.1
 have nins:∀{x:Nat},x=H->af k4 [x]/\af k1 [x]/\af l [x]:=by
  rintro x rfl
  refine⟨⟨?_⟩,⟨?_⟩,⟨?_⟩⟩<;>simp only[List.mem_singleton]<;>omega
 rw[uE num]at hb2
 refine⟨fun vs w'=>∃m:Nat,vs=[iv (m:Int)]/\m<=8/\w'.heap[H]?=some (.cells ((fA num m).map (Value.int .u8)).toArray 5 (0,0))/\KpL [H] w2 w'/\
  (w'.heap[k4]?=some (.cells #[sK H (64:Int).toNat (64:Int).toNat] 33 (0,0))/\w'.heap[k1]?=some (.cells #[pK l] 113 (0,0))/\aM w' l d num nxt),
  fun vs _=>match vs with|[.int _ i]=>8 - i.toNat|_=>0,fun w3 hw3 hkn3=>⟨0,rfl,by omega,(hw3.blk H hbh (by simp)).trans hb2,hw3.mono (by simp),hkn3⟩,?_⟩
 rintro n1 w4 ⟨m,hv,hm,hb4,hkp4,hkn4⟩
 obtain rfl:=v1 hv
 constructor
 ·intro hlt
  have hm8:m<8:=by omega
  refine⟨ae.2 (by omega),ae.2 (by omega),by omega,ae.2 (by omega),_,rfl,by omega,by show(m:Int)<64;omega,fun w5 hw5 hkn5=>?_⟩
  have hb5:=(hw5.blk H (ab hb4) (by simp)).trans hb4
  have hlen:((fA num m).map (Value.int .u8)).length=64:=by simp[fA]
  have ev:IntKind.u8.wrap (Int.fdiv num (2 ^ min (Int.toNat (8*(7 - (m:Int)))) (IntKind.bits .u64)))=fe num m:=by
   have e1:min (Int.toNat (8*(7 - (m:Int)))) (IntKind.bits .u64)=8*(7 - m):=by
    have:IntKind.bits .u64=64:=rfl
    rw[this];omega
   rw[e1,jn]
   unfold fe
   rw[<-eU,show((2 ^ (8*(7 - m)):Nat):Int)=(2:Int) ^ (8*(7 - m)) from Int.natCast_pow 2 _]
  obtain⟨s1,s2,s3,s4,s5⟩:=zq (i:=(m:Int).toNat) (v:=.int .u8 (IntKind.u8.wrap (Int.fdiv num (2 ^ min (Int.toNat (8*(7 - (m:Int)))) (IntKind.bits .u64))))) hb5 (by rw[hlen];omega)
  refine⟨s1,s2,nins s3,?_⟩
  rintro w6 rfl
  intro hkn6
  refine⟨⟨ak hkn6.1 0 _ rfl,trivial⟩,_,rfl,by omega,by show(56:Int)+m<64;omega,fun _=>?_⟩
  obtain⟨t1,t2,t3,t4,t5⟩:=zq (i:=(56+(m:Int)).toNat) (v:=.int .u8 (IntKind.u8.wrap (Int.fdiv num (2 ^ min (Int.toNat (8*(7 - (m:Int)))) (IntKind.bits .u64))))) s4 (by rw[List.length_set,hlen];omega)
  refine⟨t1,t2,nins t3,?_⟩
  intro w7 hw7
  rw[<-hw7]at t4 t5
  refine⟨ae.2 (by omega),fun hkn7=>⟨⟨m+1,by simp,by omega,?_,((hkp4.trans (hw5.mono (by simp))).trans s5).trans t5,hkn7⟩,?_⟩⟩
  ·rw[t4,uf num hm8 (by omega) (by omega) ev]
  ·show 8 - ((m:Int)+1).toNat<8 - (m:Int).toNat
   omega
 ·intro hge k5 hk5 w8 hw8 hkn8
  have hm8:m=8:=by omega
  subst hm8
  have hkp:KpL [] w w8:=((hw1.trans hw2).more hkp4 (by intro x hx;simp at hx;exact .inr (by omega))).trans hw8
  have hs2:=hw2.size
  have hs4:=hkp4.size
  have hk4l:=ab hkn4.1
  have hs8:=hw8.size
  have hk5l:=ab hkn8.1
  have hnews:∀x∈[k5,k4,k1],w.heap.size<=x/\x<w8.heap.size:=by
   intro x hx
   simp only[List.mem_cons,List.not_mem_nil,or_false]at hx
   rcases hx with rfl|rfl|rfl<;>omega
  have hD:=h.news hkp hnews
  have hM:∀x∈[k5,k4,k1,l],x∈[k5,k4,k1]++M:=by
   intro x hx
   simp only[List.mem_cons,List.not_mem_nil,or_false]at hx
   rcases hx with rfl|rfl|rfl|rfl<;>simp[hlM]
  have hb8:w8.heap[H]?=some (.cells ((dj num).map (Value.int .u8)++[]).toArray 5 (0,0)):=by
   rw[List.append_nil]
   exact(hw8.blk H (ab hb4) (by simp)).trans hb4
  have hRn:R (au (tI .u8)) F w8 (dj num) [sK H 64 64]:=by
   have:=R.ofBlk (M:=F) (c:=64) hb8 (fun hm=>by have:=(h.own_lt H hm).1;omega) (Af num 8) (by rw[dj,jf];exact Nat.le_refl _) (by rw[dj,jf];decide)
   rwa [dj,jf]at this
  refine⟨(qR (b:=k5) (fs:=[(123,#[],#[pK k1,pK k4]),(37,#[pK d],#[])])
   (T:=49) hkn8.1 (by simp) (c:=2) (R:=fun e w'=>∃n1,e=.returned (iv n1)/\n1=(k.note num).1/\gp ([k5,k4,k1]++M) F w8 d (k.note num).2 w') ?_).mono ?_⟩
  ·have hk14:k1≠k4:=by omega
   refine⟨⟨_,_,Tryz.func123,rfl⟩,⟨(AT hD hkn8.2.2.2 hkn8.2.2.1 hkn8.2.1 (by simp;omega) (fun x hx=>hM x (by simp at hx ⊢;omega)) hRn h2 hnum (by omega)).mono ?_⟩⟩
   rintro e wa ⟨rfl,Fa,hDa,hOa⟩
   refine⟨_,_,rfl,hOa.kp,hD.out (by simp),fun hne=>⟨_,rfl,?_,?_⟩,fun hz=>?_⟩
   ·unfold Dk.note;rw[if_pos hne]
   ·unfold Dk.note;rw[if_pos hne];exact⟨Fa,hDa,hOa⟩
   have hfin:k.note num=(k.write (num%2).toNat (dj num)).2.sync:=by unfold Dk.note;rw[if_neg (by simp[hz])]
   refine⟨⟨_,_,Tryz.func37,rfl⟩,⟨(iV hDa (by have:=Dk.write_pend k (num%2).toNat (dj num);omega)).mono ?_⟩⟩
   rintro e wc ⟨rfl,Fc,hDc,hOc⟩
   refine⟨_,_,rfl,hOc.kp,hDa.out (by simp),fun hne=>⟨_,rfl,by rw[hfin],by rw[hfin];exact⟨Fc,hDc,hOa.trans hOc⟩⟩,fun hz3=>?_⟩
   exact⟨_,rfl,by rw[hfin,hz3],by rw[hfin];exact⟨Fc,hDc,hOa.trans hOc⟩⟩
  ·rintro e w9 ⟨n1,rfl,hn1,F',hD',hO'⟩
   subst hn1
   exact⟨_,rfl,F,hO'.kp,⟨hD.out (by simp),hD.out (by simp),⟨hlF⟩⟩,fun _=>⟨rfl,F',hD'.weak (fun x hx=>List.mem_append_right _ hx),(ci.of0 hkp).trans hO'⟩⟩
end Go.Vc
namespace Go.Vc
open Go Go.Proofs
end Go.Vc
