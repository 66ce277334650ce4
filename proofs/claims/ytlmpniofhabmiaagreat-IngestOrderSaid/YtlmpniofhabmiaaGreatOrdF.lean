/- 'tesseractlaw10.IngestOrder' returns true whatever its input is, and each of its arguments reads afterwards as it read before. Conditions: none. -/
import Derived.Test.YtlmpniofhabmiaaGreatOrdE
import Derived.Below
import Derived.Deep.Slices
import Derived.OpenShut
import Derived.SizedLaws
import Derived.ChangeOld
import Derived.ProofKit
import Derived.ShutString
import Derived.Test.YtlmpniofhabmiaaGreatRows
import Derived.WalkKit
set_option linter.unusedVariables false
set_option linter.unusedSimpArgs false
set_option linter.unusedSectionVars false
namespace Go.Vc
open Go Go.Proofs
open Go.Value Go.Ending Go.IntKind
set_option maxRecDepth 100000
theorem gOrder_vc {dba:Option Addr} {dbn dbc:Nat} {la:Option Addr} {ln lc:Nat} {u0 u1:Int} {w:World} {R:Ending→World→Prop}
 (h :
 ∀k1,w.heap.size≤k1→
 ∀w1,KpL [] w w1→
 Hb w1 k1 #[int u16 u0,int u16 u1] 26→
 CallW Tryz.prog 8 #[slice dba dbn dbc] w1 fun e1 w2 =>
 ∃b1,e1=returned (Value.bool b1)∧
 KpL [] w1 w2∧
 ((!b1)=false→
 ((12:Int)<(↑ln:Int)→
 Hb w2 k1 #[int u16 u0,int u16 u1] 26→
 CallW Tryz.prog 9 #[] w2 fun e2 w3 =>
 ∃b2,e2=returned (Value.bool b2)∧
 KpL [] w2 w3∧
 (Hb w3 k1 #[int u16 u0,int u16 u1] 26→
 R (returned (Value.bool b2)) w3))∧
 (¬(12:Int)<(↑ln:Int)→
 ∃(P1:List Value→World→Prop) (P2:List Value→World→Nat),(Hb w2 k1 #[int u16 u0,int u16 u1] 26→
 P1 [int i64 0] w2)∧
 ∀n1 w4,P1 [int i64 n1] w4→
 (n1<(↑ln:Int)→
 ∃d1,la=some d1∧
 0≤n1∧
 n1<(↑ln:Int)∧
 (Hb w4 k1 #[int u16 u0,int u16 u1] 26→
 ∃s1 n2 s2 a1 k2 k3,LdA w4 (d1.add (n1.toNat*4)) [string s1,int i64 n2,string s2,slice a1 k2 k3]∧
 ∀k4,w4.heap.size≤k4→
 ∀w5,KpL [] w4 w5→
 Hb w5 k4 #[string s1,int i64 n2,string s2,slice a1 k2 k3,Value.bool false,Value.bool false,int u16 0,slice none 0 0,int u8 0] 37∧
 Hb w5 k1 #[int u16 u0,int u16 u1] 26→
 CallW Tryz.prog 10 #[slice (some (Addr.mk k4 0 none)) 1 1] w5 fun e3 w6 =>
 ∃b3,e3=returned (Value.bool b3)∧
 KpL [] w5 w6∧
 ((!b3)=true→
 Hb w6 k4 #[string s1,int i64 n2,string s2,slice a1 k2 k3,Value.bool false,Value.bool false,int u16 0,slice none 0 0,int u8 0] 37∧
 Hb w6 k1 #[int u16 u0,int u16 u1] 26→
 CallW Tryz.prog 9 #[] w6 fun e4 w7 =>
 ∃b4,e4=returned (Value.bool b4)∧
 KpL [] w6 w7∧
 (Hb w7 k4 #[string s1,int i64 n2,string s2,slice a1 k2 k3,Value.bool false,Value.bool false,int u16 0,slice none 0 0,int u8 0] 37∧
 Hb w7 k1 #[int u16 u0,int u16 u1] 26→
 R (returned (Value.bool b4)) w7))∧
 ((!b3)=false→
 InI i64 (n1+1)∧
 (Hb w6 k4 #[string s1,int i64 n2,string s2,slice a1 k2 k3,Value.bool false,Value.bool false,int u16 0,slice none 0 0,int u8 0] 37∧
 Hb w6 k1 #[int u16 u0,int u16 u1] 26→
 P1 [int i64 (n1+1)] w6∧
 P2 [int i64 (n1+1)] w6<P2 [int i64 n1] w4))))∧
 (¬n1<(↑ln:Int)→
 Hb w4 k1 #[int u16 u0,int u16 u1] 26→
 CallW Tryz.prog 11 #[slice la ln lc] w4 fun e5 w8 =>
 ∃a2 k5 k6,e5=returned (slice a2 k5 k6)∧
 KpL [] w4 w8∧
 (Hb w8 k1 #[int u16 u0,int u16 u1] 26→
 CallW Tryz.prog 12 #[int i64 1024,slice dba dbn dbc] w8 fun e6 w9 =>
 ∃a3 a4 b5,e6=returned (tuple #[pointer a3,pointer a4,Value.bool b5])∧
 ∃l1,KpL l1 w8 w9∧
 NotIn k1 l1∧
 (Hb w9 k1 #[int u16 u0,int u16 u1] 26→
 CallW Tryz.prog 12 #[int i64 1024,slice dba dbn dbc] w9 fun e7 w10 =>
 ∃a5 a6 b6,e7=returned (tuple #[pointer a5,pointer a6,Value.bool b6])∧
 ∃l2,KpL l2 w9 w10∧
 NotIn k1 l2∧
 ((!b5)=false→
 ((!b6)=false→
 ((↑k5:Int)=(0:Int)→
 ((b5 == b6)=true→
 Hb w10 k1 #[int u16 u0,int u16 u1] 26→
 CallW Tryz.prog 9 #[] w10 fun e8 w11 =>
 ∃b7,e8=returned (Value.bool b7)∧
 KpL [] w10 w11∧
 (Hb w11 k1 #[int u16 u0,int u16 u1] 26→
 R (returned (Value.bool b7)) w11))∧
 ((b5 == b6)=false→
 Hb w10 k1 #[int u16 u0,int u16 u1] 26→
 R (returned (Value.bool false)) w10))∧
 (¬(↑k5:Int)=(0:Int)→
 Hb w10 k1 #[int u16 u0,int u16 u1] 26→
 Ev Tryz.prog (Instr.makeSlice (44:Nat) (int i64 (↑k5:Int)) (int i64 (↑k5:Int))) w10 fun y1 w12 =>
 ∃a7 k7 k8,y1=slice a7 k7 k8∧
 ∃l3,KpL l3 w10 w12∧
 NotIn k1 l3∧
 ∃(P3:List Value→World→Prop) (P4:List Value→World→Nat),(Hb w12 k1 #[int u16 u0,int u16 u1] 26→
 P3 [int i64 0] w12)∧
 ∀n3 w13,P3 [int i64 n3] w13→
 (n3<(↑k5:Int)→
 ∃d2,a2=some d2∧
 0≤n3∧
 n3<(↑k5:Int)∧
 (Hb w13 k1 #[int u16 u0,int u16 u1] 26→
 ∃s3 n4 s4 a8 k9 k10,LdA w13 (d2.add (n3.toNat*4)) [string s3,int i64 n4,string s4,slice a8 k9 k10]∧
 (Hb w13 k1 #[int u16 u0,int u16 u1] 26→
 CallW Tryz.prog 13 (#[pointer a4,agg #[string s3,int i64 n4,string s4,slice a8 k9 k10]]) w13 fun e9 w14 =>
 ∃b8 n5,e9=returned (tuple #[Value.bool b8,int i64 n5])∧
 ∃l4,KpL l4 w13 w14∧
 NotIn k1 l4∧
 ((!b8 == decide (n5=0))=true→
 Hb w14 k1 #[int u16 u0,int u16 u1] 26→
 R (returned (Value.bool false)) w14)∧
 ((!b8 == decide (n5=0))=false→
 ∃d3,a7=some d3∧
 0≤n3∧
 n3<(↑k7:Int)∧
 (Hb w14 k1 #[int u16 u0,int u16 u1] 26→
 (∃l5,LdA w14 (d3.add (n3.toNat*1)) l5∧
 l5.length=1)∧
 NotFrozen w14 (d3.add (n3.toNat*1)) 1∧
 NotIn k1 [(d3.add (n3.toNat*1)).block]∧
 ∀w15,w15=stA w14 (d3.add (n3.toNat*1)) [Value.bool b8] 0→
 InI i64 (n3+1)∧
 (Hb w15 k1 #[int u16 u0,int u16 u1] 26→
 P3 [int i64 (n3+1)] w15∧
 P4 [int i64 (n3+1)] w15<P4 [int i64 n3] w13))))))∧
 (¬n3<(↑k5:Int)→
 ∃(P5:List Value→World→Prop) (P6:List Value→World→Nat),(Hb w13 k1 #[int u16 u0,int u16 u1] 26→
 P5 [pointer a6,int i64 0] w13)∧
 ∀a9 n6 w16,P5 [pointer a9,int i64 n6] w16→
 (n6<(↑k5:Int)→
 InI i64 u1∧
 (↑k5:Int)≠(0:Int)∧
 InI i64 (u1.tmod (↑k5:Int)+(↑k5:Int))∧
 InI i64 (u1.tmod (↑k5:Int)+(↑k5:Int) - n6)∧
 (↑k5:Int)≠(0:Int)∧
 ∃d4,a2=some d4∧
 (0:Int)≤(u1.tmod (↑k5:Int)+(↑k5:Int) - n6).tmod (↑k5:Int)∧
 (u1.tmod (↑k5:Int)+(↑k5:Int) - n6).tmod (↑k5:Int)<(↑k5:Int)∧
 (Hb w16 k1 #[int u16 u0,int u16 u1] 26→
 ∃s5 n7 s6 a10 k11 k12,LdA w16 (d4.add (((u1.tmod (↑k5:Int)+(↑k5:Int) - n6).tmod (↑k5:Int)).toNat*(4:Nat))) [string s5,int i64 n7,string s6,slice a10 k11 k12]∧
 (Hb w16 k1 #[int u16 u0,int u16 u1] 26→
 CallW Tryz.prog 13 (#[pointer a9,agg #[string s5,int i64 n7,string s6,slice a10 k11 k12]]) w16 fun e10 w17 =>
 ∃b9 n8,e10=returned (tuple #[Value.bool b9,int i64 n8])∧
 ∃l6,KpL l6 w16 w17∧
 NotIn k1 l6∧
 ∃d5,a7=some d5∧
 (0:Int)≤(u1.tmod (↑k5:Int)+(↑k5:Int) - n6).tmod (↑k5:Int)∧
 (u1.tmod (↑k5:Int)+(↑k5:Int) - n6).tmod (↑k5:Int)<(↑k7:Int)∧
 (Hb w17 k1 #[int u16 u0,int u16 u1] 26→
 ∃b10,LdA w17 (d5.add (((u1.tmod (↑k5:Int)+(↑k5:Int) - n6).tmod (↑k5:Int)).toNat*(1:Nat))) [Value.bool b10]∧
 ((!b9 == b10)=false→
 ((!b9 == decide (n8=0))=true→
 Hb w17 k1 #[int u16 u0,int u16 u1] 26→
 R (returned (Value.bool false)) w17)∧
 ((!b9 == decide (n8=0))=false→
 0≤n6∧
 (2:Int)≠(0:Int)∧
 ((u0.fdiv (2 ^ Min.min n6.toNat u16.bits)).tmod 2=1→
 Hb w17 k1 #[int u16 u0,int u16 u1] 26→
 CallW Tryz.prog 14 #[pointer a9] w17 fun e11 w18 =>
 ∃n9,e11=returned (int i64 n9)∧
 ∃l7,KpL l7 w17 w18∧
 NotIn k1 l7∧
 (n9≠0→
 Hb w18 k1 #[int u16 u0,int u16 u1] 26→
 R (returned (Value.bool false)) w18)∧
 (¬n9≠0→
 InI i64 (n6+4)∧
 0≤n6+4∧
 (2:Int)≠(0:Int)∧
 ((u0.fdiv (2 ^ Min.min (n6+4).toNat u16.bits)).tmod 2=1→
 Hb w18 k1 #[int u16 u0,int u16 u1] 26→
 CallW Tryz.prog 15 #[pointer a5] w18 fun e12 w19 =>
 ∃a11 n10,e12=returned (tuple #[pointer a11,int i64 n10])∧
 ∃l8,KpL l8 w18 w19∧
 NotIn k1 l8∧
 (n10≠0→
 Hb w19 k1 #[int u16 u0,int u16 u1] 26→
 R (returned (Value.bool false)) w19)∧
 (¬n10≠0→
 InI i64 (n6+1)∧
 (Hb w19 k1 #[int u16 u0,int u16 u1] 26→
 P5 [pointer a11,int i64 (n6+1)] w19∧
 P6 [pointer a11,int i64 (n6+1)] w19<P6 [pointer a9,int i64 n6] w16)))∧
 (¬(u0.fdiv (2 ^ Min.min (n6+4).toNat u16.bits)).tmod 2=1→
 InI i64 (n6+1)∧
 (Hb w18 k1 #[int u16 u0,int u16 u1] 26→
 P5 [pointer a9,int i64 (n6+1)] w18∧
 P6 [pointer a9,int i64 (n6+1)] w18<P6 [pointer a9,int i64 n6] w16))))∧
 (¬(u0.fdiv (2 ^ Min.min n6.toNat u16.bits)).tmod 2=1→
 InI i64 (n6+4)∧
 0≤n6+4∧
 (2:Int)≠(0:Int)∧
 ((u0.fdiv (2 ^ Min.min (n6+4).toNat u16.bits)).tmod 2=1→
 Hb w17 k1 #[int u16 u0,int u16 u1] 26→
 CallW Tryz.prog 15 #[pointer a5] w17 fun e13 w20 =>
 ∃a12 n11,e13=returned (tuple #[pointer a12,int i64 n11])∧
 ∃l9,KpL l9 w17 w20∧
 NotIn k1 l9∧
 (n11≠0→
 Hb w20 k1 #[int u16 u0,int u16 u1] 26→
 R (returned (Value.bool false)) w20)∧
 (¬n11≠0→
 InI i64 (n6+1)∧
 (Hb w20 k1 #[int u16 u0,int u16 u1] 26→
 P5 [pointer a12,int i64 (n6+1)] w20∧
 P6 [pointer a12,int i64 (n6+1)] w20<P6 [pointer a9,int i64 n6] w16)))∧
 (¬(u0.fdiv (2 ^ Min.min (n6+4).toNat u16.bits)).tmod 2=1→
 InI i64 (n6+1)∧
 (Hb w17 k1 #[int u16 u0,int u16 u1] 26→
 P5 [pointer a9,int i64 (n6+1)] w17∧
 P6 [pointer a9,int i64 (n6+1)] w17<P6 [pointer a9,int i64 n6] w16)))))∧
 ((!b9 == b10)=true→
 Hb w17 k1 #[int u16 u0,int u16 u1] 26→
 R (returned (Value.bool false)) w17)))))∧
 (¬n6<(↑k5:Int)→
 ∃(P7:List Value→World→Prop) (P8:List Value→World→Nat),(Hb w16 k1 #[int u16 u0,int u16 u1] 26→
 P7 [int i64 0] w16)∧
 ∀n12 w21,P7 [int i64 n12] w21→
 (n12<(↑k5:Int)→
 ∃d6,a2=some d6∧
 0≤n12∧
 n12<(↑k5:Int)∧
 (Hb w21 k1 #[int u16 u0,int u16 u1] 26→
 ∃s7 n13 s8 a13 k13 k14,LdA w21 (d6.add (n12.toNat*4)) [string s7,int i64 n13,string s8,slice a13 k13 k14]∧
 (Hb w21 k1 #[int u16 u0,int u16 u1] 26→
 CallW Tryz.prog 13 (#[pointer a9,agg #[string s7,int i64 n13,string s8,slice a13 k13 k14]]) w21 fun e14 w22 =>
 ∃b11 n14,e14=returned (tuple #[Value.bool b11,int i64 n14])∧
 ∃l10,KpL l10 w21 w22∧
 NotIn k1 l10∧
 (b11=false→
 ∃d7,a7=some d7∧
 0≤n12∧
 n12<(↑k7:Int)∧
 (Hb w22 k1 #[int u16 u0,int u16 u1] 26→
 ∃b12,LdA w22 (d7.add (n12.toNat*1)) [Value.bool b12]∧
 ((!decide (n14=0) == b12)=true→
 Hb w22 k1 #[int u16 u0,int u16 u1] 26→
 R (returned (Value.bool false)) w22)∧
 ((!decide (n14=0) == b12)=false→
 InI i64 (n12+1)∧
 (Hb w22 k1 #[int u16 u0,int u16 u1] 26→
 P7 [int i64 (n12+1)] w22∧
 P8 [int i64 (n12+1)] w22<P8 [int i64 n12] w21))))∧
 (b11=true→
 Hb w22 k1 #[int u16 u0,int u16 u1] 26→
 R (returned (Value.bool false)) w22))))∧
 (¬n12<(↑k5:Int)→
 Hb w21 k1 #[int u16 u0,int u16 u1] 26→
 CallW Tryz.prog 16 #[pointer a4] w21 fun e15 w23 =>
 ∃a14 k15 k16 n15,e15=returned (tuple #[slice a14 k15 k16,int i64 n15])∧
 KpL [] w21 w23∧
 (Hb w23 k1 #[int u16 u0,int u16 u1] 26→
 CallW Tryz.prog 16 #[pointer a9] w23 fun e16 w24 =>
 ∃a15 k17 k18 n16,e16=returned (tuple #[slice a15 k17 k18,int i64 n16])∧
 KpL [] w23 w24∧
 (¬n15≠0→
 (¬n16≠0→
 ((↑k15:Int)≠(↑k17:Int)→
 Hb w24 k1 #[int u16 u0,int u16 u1] 26→
 R (returned (Value.bool false)) w24)∧
 (¬(↑k15:Int)≠(↑k17:Int)→
 ∃(P9:List Value→World→Prop) (P10:List Value→World→Nat),(Hb w24 k1 #[int u16 u0,int u16 u1] 26→
 P9 [int i64 0] w24)∧
 ∀n17 w25,P9 [int i64 n17] w25→
 (n17<(↑k15:Int)→
 ∃d8,a14=some d8∧
 0≤n17∧
 n17<(↑k15:Int)∧
 ∃s9,LdA w25 ((d8.add (n17.toNat*4)).add 0) [string s9]∧
 ∃d9,a15=some d9∧
 0≤n17∧
 n17<(↑k17:Int)∧
 ∃s10,LdA w25 ((d9.add (n17.toNat*4)).add 0) [string s10]∧
 (¬s9≠s10→
 ∃d10,a14=some d10∧
 0≤n17∧
 n17<(↑k15:Int)∧
 ∃a16 k19 k20 a17 k21 k22 a18 k23 k24,LdA w25 ((d10.add (n17.toNat*4)).add 1) [slice a16 k19 k20,slice a17 k21 k22,slice a18 k23 k24]∧
 ∃d11,a15=some d11∧
 0≤n17∧
 n17<(↑k17:Int)∧
 ∃a19 k25 k26 a20 k27 k28 a21 k29 k30,LdA w25 ((d11.add (n17.toNat*4)).add 1) [slice a19 k25 k26,slice a20 k27 k28,slice a21 k29 k30]∧
 ∀w26,KpL [] w25 w26→
 Hb w26 k1 #[int u16 u0,int u16 u1] 26→
 CallW Tryz.prog 17 (#[agg #[slice a16 k19 k20,slice a17 k21 k22,slice a18 k23 k24],agg #[slice a19 k25 k26,slice a20 k27 k28,slice a21 k29 k30]]) w26 fun e17 w27 =>
 ∃b13,e17=returned (Value.bool b13)∧
 KpL [] w26 w27∧
 ((!b13)=true→
 Hb w27 k1 #[int u16 u0,int u16 u1] 26→
 R (returned (Value.bool false)) w27)∧
 ((!b13)=false→
 InI i64 (n17+1)∧
 (Hb w27 k1 #[int u16 u0,int u16 u1] 26→
 P9 [int i64 (n17+1)] w27∧
 P10 [int i64 (n17+1)] w27<P10 [int i64 n17] w25)))∧
 (s9≠s10→
 ∀w28,KpL [] w25 w28→
 Hb w28 k1 #[int u16 u0,int u16 u1] 26→
 R (returned (Value.bool false)) w28))∧
 (¬n17<(↑k15:Int)→
 Hb w25 k1 #[int u16 u0,int u16 u1] 26→
 CallW Tryz.prog 9 #[] w25 fun e18 w29 =>
 ∃b14,e18=returned (Value.bool b14)∧
 KpL [] w25 w29∧
 (Hb w29 k1 #[int u16 u0,int u16 u1] 26→
 R (returned (Value.bool b14)) w29))))∧
 (n16≠0→
 Hb w24 k1 #[int u16 u0,int u16 u1] 26→
 R (returned (Value.bool false)) w24))∧
 (n15≠0→
 Hb w24 k1 #[int u16 u0,int u16 u1] 26→
 R (returned (Value.bool false)) w24)))))))∧
 ((!b6)=true→
 ((b5 == b6)=true→
 Hb w10 k1 #[int u16 u0,int u16 u1] 26→
 CallW Tryz.prog 9 #[] w10 fun e19 w30 =>
 ∃b15,e19=returned (Value.bool b15)∧
 KpL [] w10 w30∧
 (Hb w30 k1 #[int u16 u0,int u16 u1] 26→
 R (returned (Value.bool b15)) w30))∧
 ((b5 == b6)=false→
 Hb w10 k1 #[int u16 u0,int u16 u1] 26→
 R (returned (Value.bool false)) w10)))∧
 ((!b5)=true→
 ((b5 == b6)=true→
 Hb w10 k1 #[int u16 u0,int u16 u1] 26→
 CallW Tryz.prog 9 #[] w10 fun e20 w31 =>
 ∃b16,e20=returned (Value.bool b16)∧
 KpL [] w10 w31∧
 (Hb w31 k1 #[int u16 u0,int u16 u1] 26→
 R (returned (Value.bool b16)) w31))∧
 ((b5 == b6)=false→
 Hb w10 k1 #[int u16 u0,int u16 u1] 26→
 R (returned (Value.bool false)) w10)))))))∧
 ((!b1)=true→
 Hb w2 k1 #[int u16 u0,int u16 u1] 26→
 CallW Tryz.prog 9 #[] w2 fun e21 w32 =>
 ∃b17,e21=returned (Value.bool b17)∧
 KpL [] w2 w32∧
 (Hb w32 k1 #[int u16 u0,int u16 u1] 26→
 R (returned (Value.bool b17)) w32))):Calls Tryz.prog 3 #[slice dba dbn dbc,slice la ln lc,agg #[int u16 u0,int u16 u1]] w R :=
 fnc0 (an:={ loops:=[⟨46,[30],[6,221,222,223,224,225,226,227,228,229,230,231,232,233,234,235,236,237,238,239,240,241,242,243,244,245,246,247,248,249,250,251],[]⟩,⟨36,[23],[6,24,25,174,175,176,177,178,179,180,181,182,183,184,185,186,187,188,189,190,191,192,193,194,195,196,197],[]⟩,⟨23,[12,19],[6,20,21,22,112,113,114,115,116,117,118,119,120,121,122,123,124,125,126,127,128,129,130,131,132,133,134,135,136,137,138,139,140,141,142,143,144,145,146,147,148,149,150,151,152,153,154,155,156,157,158,159,160,161,162,163,164,165,166,167,168,169,170,171,172,173],[]⟩,⟨16,[16],[6,17,18,90,91,92,93,94,95,96,97,98,99,100,101,102,103,104,105,106,107,108,109,110,111],[15]⟩,⟨4,[7],[6,40,41,42,43,44,45,46,47,48,49,50,51,52,53,54],[]⟩],muts:=[12,13,14,15],all:=true }) (args:=[.a (.c (.v (.slice dba dbn dbc))),.a (.c (.v (.slice la ln lc))),.a (.agg [.v (.int .u16 u0),.v (.int .u16 u1)])]) Tryz_ok Tryz.func3 (by kernel_rfl) rfl rfl h
end Go.Vc
namespace Go.Vc
open Go Go.Proofs
structure OSt (db:List Nm) (L:List Bt) (r:Nat) (s t d kd:Nat) (w0:World) (la:Option Addr) (ln lc:Nat) (m i j:Nat) (dn:List Bool) (w:World):Prop where
  ex : ∃d1 st1 G1 st2 G2 c,SysL (G2 ++ [kd]) w s d1 1024 c st1 G1∧SysL (G1 ++ [kd]) w t d 1024 c st2 G2∧c≤(m:Int)∧Run db L i st1∧Run db (ord L r) j st2∧R (tSl tBt) (G1++(G2 ++ [kd])) w L [.slice la ln lc]∧
    (∀b∈G1,w0.heap.size≤b)∧∀b∈G2,w0.heap.size≤b
  nt : ∃T,w.heap[kd]?=some (.cells (dn.map Value.bool).toArray T (0,0))
  kp:KpL [] w0 w
  kd:w0.heap.size≤kd
structure OOk (db:List Nm) (L:List Bt) (r:Nat):Prop where
  len:L.length≤12
  r:r<L.length
  tok:(L.map (·.token)).Nodup
  c4 : ∀b∈L,b.changes.length≤4
  use:(fmtSto db).use≤129
def Late (w0:World) (kd:Nat) (l:List Nat):Prop:=∀b∈l,w0.heap.size≤b∧b≠kd
section
variable {db:List Nm} {L:List Bt} {r s t d kd:Nat} {w0 w:World} {la:Option Addr} {ln lc m i j:Nat} {dn:List Bool} (hk:OOk db L r)
theorem OSt.up (h:OSt db L r s t d kd w0 la ln lc m i j dn w) {m':Nat} (hm:m≤m'):OSt db L r s t d kd w0 la ln lc m' i j dn w:=by
  obtain ⟨⟨d1,st1,G1,st2,G2,c,h1,h2,hc,r1,r2,hL,g1,g2⟩,hT,hkp,hkd⟩:=h
  exact ⟨⟨d1,st1,G1,st2,G2,c,h1,h2,by omega,r1,r2,hL,g1,g2⟩,hT,hkp,hkd⟩
theorem own1 {d1:Nat} {st1 st1' st2:Sto} {G1 G1' G2:List Nat} {c:Int} {w':World} {i' T:Nat} (h1:SysL (G2 ++ [kd]) w s d1 1024 c st1 G1) (h2:SysL (G1 ++ [kd]) w t d 1024 c st2 G2) (hc:c≤(m:Int)) (r2:Run db (ord L r) j st2) (hL:R (tSl tBt) (G1++(G2 ++ [kd])) w L [.slice la ln lc])
    (g1 : ∀b∈G1,w0.heap.size≤b) (g2 : ∀b∈G2,w0.heap.size≤b) (hT:w.heap[kd]?=some (.cells (dn.map Value.bool).toArray T (0,0))) (hkp:KpL [] w0 w) (hkd:w0.heap.size≤kd)
    (h1':SysL (G2 ++ [kd]) w' s d1 1024 c st1' G1') (r1':Run db L i' st1') (hO:Own G1 w G1' w'):KpL G1 w w'∧Late w0 kd G1∧OSt db L r s t d kd w0 la ln lc m i' j dn w':=by
  have hk1:kd∉G1:=fun hm=>(h1.own_lt kd hm).2 (by simp)
  refine ⟨hO.kp,fun b hb=>⟨g1 b hb,fun he=>hk1 (he▸hb)⟩,⟨d1,st1',G1',st2,G2,c,h1',?_,hc,r1',r2,hO.data hL,fun b hb=>(hO.new b hb).elim (g1 b) fun hge=>Nat.le_trans hkp.size hge,g2⟩,⟨T,(hO.kp.blk kd (block_lt hT) hk1).trans hT⟩,hkp.more hO.kp fun b hb=>.inr (g1 b hb),hkd⟩
  exact h2.aside hO rfl fun b hb=>(h1'.own_lt b hb).1
theorem own2 {d1:Nat} {st1 st2 st2':Sto} {G1 G2 G2':List Nat} {c c':Int} {w':World} {t' j' m' T:Nat} (h1:SysL (G2 ++ [kd]) w s d1 1024 c st1 G1) (h2:SysL (G1 ++ [kd]) w t d 1024 c st2 G2) (r1:Run db L i st1) (hL:R (tSl tBt) (G1++(G2 ++ [kd])) w L [.slice la ln lc])
    (g1 : ∀b∈G1,w0.heap.size≤b) (g2 : ∀b∈G2,w0.heap.size≤b) (hT:w.heap[kd]?=some (.cells (dn.map Value.bool).toArray T (0,0))) (hkp:KpL [] w0 w) (hkd:w0.heap.size≤kd)
    (h2':SysL (G1 ++ [kd]) w' t' d 1024 c' st2' G2') (hcc:c≤c') (hc:c'≤(m':Int)) (r2':Run db (ord L r) j' st2') (hO:Own G2 w G2' w'):KpL G2 w w'∧Late w0 kd G2∧OSt db L r s t' d kd w0 la ln lc m' i j' dn w':=by
  have hk2:kd∉G2:=fun hm=>(h2.own_lt kd hm).2 (by simp)
  refine ⟨hO.kp,fun b hb=>⟨g2 b hb,fun he=>hk2 (he▸hb)⟩,⟨d1,st1,G1,st2',G2',c',(h1.aside hO rfl fun b hb=>(h2'.own_lt b hb).1).le hcc,h2',hc,r1,r2',?_,g1,fun b hb=>(hO.new b hb).elim (g2 b) fun hge=>Nat.le_trans hkp.size hge⟩,⟨T,(hO.kp.blk kd (block_lt hT) hk2).trans hT⟩,hkp.more hO.kp fun b hb=>.inr (g2 b hb),hkd⟩
  have e:R (tSl tBt) (G2++(G1 ++ [kd])) w L [.slice la ln lc]:=hL.weak fun b hb=>by
    simp only [List.mem_append] at hb ⊢
    rcases hb with hb | hb | hb
    · exact .inr (.inl hb)
    · exact .inl hb
    · exact .inr (.inr hb)
  exact (hO.data e).weak fun b hb=>by
    simp only [List.mem_append] at hb ⊢
    rcases hb with hb | hb | hb
    · exact .inr (.inl hb)
    · exact .inl hb
    · exact .inr (.inr hb)
theorem OSt.get (h:OSt db L r s t d kd w0 la ln lc m i j dn w) {x:Nat} (hx:x<L.length) : ∃ad ca cn cc,la=some ad∧LdA w (ad.add (x*4)) [.string L[x].token,.int .i64 L[x].stamp,.string L[x].array,.slice ca cn cc]∧
    ∀d1 st1 G1 st2 G2 c,SysL (G2 ++ [kd]) w s d1 1024 c st1 G1→SysL (G1 ++ [kd]) w t d 1024 c st2 G2→R (tSl tBt) (G1++(G2 ++ [kd])) w L [.slice la ln lc]→R (tSl tCell) (G1++(G2 ++ [kd])) w L[x].changes [.slice ca cn cc]:=by
  obtain ⟨⟨d1,st1,G1,st2,G2,c,h1,h2,hc,r1,r2,hL,g1,g2⟩,⟨T,hT⟩,hkp,hkd⟩:=h
  obtain ⟨ad,cs,rfl,hv,hld,_,_⟩:=hL.sl_get hx
  obtain ⟨ca,cn,cc,rfl,_,_,_,hch⟩:=hv.bt
  refine ⟨ad,ca,cn,cc,rfl,hld,fun d1' st1' G1' st2' G2' c' h1' h2' hL'=>?_⟩
  obtain ⟨ad',cs',had,hv',hld',_,_⟩:=hL'.sl_get hx
  simp only [Option.some.injEq] at had
  subst had
  obtain ⟨ca',cn',cc',rfl,_,_,_,hch'⟩:=hv'.bt
  have e1:=hld.at_ 3 _ rfl
  have e2:=hld'.at_ 3 _ rfl
  rw [e1] at e2
  simp only [Option.some.injEq,Value.slice.injEq] at e2
  obtain ⟨rfl,rfl,rfl⟩:=e2
  exact hch'
include hk in
theorem OSt.put1 (h:OSt db L r s t d kd w0 la ln lc m i j dn w) (hi:i<L.length) : ∃ad ca cn cc,la=some ad∧LdA w (ad.add (i*4)) [.string L[i].token,.int .i64 L[i].stamp,.string L[i].array,.slice ca cn cc]∧
    Calls Tryz.prog 13 #[.pointer (some ⟨s,0,none⟩),.agg #[.string L[i].token,.int .i64 L[i].stamp,.string L[i].array,.slice ca cn cc]] w fun e w' => ∃n l,e=.returned (.tuple #[.bool (chk db L[i]),.int .i64 n])∧decide (n=0)=chk db L[i]∧KpL l w w'∧Late w0 kd l∧OSt db L r s t d kd w0 la ln lc m (i+1) j dn w':=by
  obtain ⟨ad,ca,cn,cc,hla,hld,hR⟩:=h.get hi
  refine ⟨ad,ca,cn,cc,hla,hld,?_⟩
  obtain ⟨⟨d1,st1,G1,st2,G2,c,h1,h2,hc,r1,r2,hL,g1,g2⟩,⟨T,hT⟩,hkp,hkd⟩:=h
  have hl:=hk.len
  have hu:=hk.use
  obtain ⟨q1,q2,q3⟩:=r1.put hi hk.tok (hk.c4 _ (List.getElem_mem hi)) (half:=(1024 - 2) / 2) (by omega)
  refine (h1.put (Mc:=G2 ++ [kd]) (hR _ _ _ _ _ _ h1 h2 hL)).mono ?_
  rintro e w' ⟨rfl,G1',h1',hO⟩
  obtain ⟨o1,o2,o3⟩:=own1 h1 h2 hc r2 hL g1 g2 hT hkp hkd h1' q3 hO
  exact ⟨_,G1,by rw [q1],q2,o1,o2,o3⟩
include hk in
theorem OSt.put2 (h:OSt db L r s t d kd w0 la ln lc m i j dn w) (hj:j<L.length) : ∃ad ca cn cc,la=some ad∧LdA w (ad.add (ordK L.length r j*4)) [.string (L[ordK L.length r j]'(ordK_lt hk.r hj)).token,.int .i64 (L[ordK L.length r j]'(ordK_lt hk.r hj)).stamp,.string (L[ordK L.length r j]'(ordK_lt hk.r hj)).array,.slice ca cn cc]∧
    Calls Tryz.prog 13 #[.pointer (some ⟨t,0,none⟩),.agg #[.string (L[ordK L.length r j]'(ordK_lt hk.r hj)).token,.int .i64 (L[ordK L.length r j]'(ordK_lt hk.r hj)).stamp,.string (L[ordK L.length r j]'(ordK_lt hk.r hj)).array,.slice ca cn cc]] w
      fun e w' => ∃n l,e=.returned (.tuple #[.bool (chk db (L[ordK L.length r j]'(ordK_lt hk.r hj))),.int .i64 n])∧decide (n=0)=chk db (L[ordK L.length r j]'(ordK_lt hk.r hj))∧KpL l w w'∧Late w0 kd l∧OSt db L r s t d kd w0 la ln lc m i (j+1) dn w':=by
  obtain ⟨ad,ca,cn,cc,hla,hld,hR⟩:=h.get (ordK_lt hk.r hj)
  refine ⟨ad,ca,cn,cc,hla,hld,?_⟩
  obtain ⟨⟨d1,st1,G1,st2,G2,c,h1,h2,hc,r1,r2,hL,g1,g2⟩,⟨T,hT⟩,hkp,hkd⟩:=h
  have hl:=hk.len
  have hu:=hk.use
  have hoj:j<(ord L r).length:=by rw [ord_len];exact hj
  have eo:=ord_get hk.r hj
  obtain ⟨q1,q2,q3⟩:=r2.put hoj (((ord_perm L r).map _).nodup_iff.2 hk.tok) (hk.c4 _ ((ord_perm L r).mem_iff.1 (List.getElem_mem hoj))) (half:=(1024 - 2) / 2) (by omega)
  rw [eo] at q1 q2 q3
  refine (h2.put (Mc:=G1 ++ [kd]) ((hR _ _ _ _ _ _ h1 h2 hL).weak fun b hb=>?_)).mono ?_
  · simp only [List.mem_append] at hb ⊢
    rcases hb with hb | hb | hb
    · exact .inr (.inl hb)
    · exact .inl hb
    · exact .inr (.inr hb)
  rintro e w' ⟨rfl,G2',h2',hO⟩
  obtain ⟨o1,o2,o3⟩:=own2 h1 h2 r1 hL g1 g2 hT hkp hkd h2' (Int.le_refl _) hc q3 hO
  exact ⟨_,G2,by rw [q1],q2,o1,o2,o3⟩
theorem OSt.again (h:OSt db L r s t d kd w0 la ln lc m i L.length dn w) {x:Nat} (hx:x<L.length) : ∃ad ca cn cc,la=some ad∧LdA w (ad.add (x*4)) [.string L[x].token,.int .i64 L[x].stamp,.string L[x].array,.slice ca cn cc]∧
    Calls Tryz.prog 13 #[.pointer (some ⟨t,0,none⟩),.agg #[.string L[x].token,.int .i64 L[x].stamp,.string L[x].array,.slice ca cn cc]] w fun e w' => ∃n l,e=.returned (.tuple #[.bool false,.int .i64 n])∧decide (n=0)=chk db L[x]∧KpL l w w'∧Late w0 kd l∧OSt db L r s t d kd w0 la ln lc m i L.length dn w':=by
  obtain ⟨ad,ca,cn,cc,hla,hld,hR⟩:=h.get hx
  refine ⟨ad,ca,cn,cc,hla,hld,?_⟩
  obtain ⟨⟨d1,st1,G1,st2,G2,c,h1,h2,hc,r1,r2,hL,g1,g2⟩,⟨T,hT⟩,hkp,hkd⟩:=h
  have r2':=r2
  rw [←ord_len L r] at r2'
  obtain ⟨q1,q2,q3⟩:=r2'.again ((ord_perm L r).mem_iff.2 (List.getElem_mem hx)) (half:=(1024 - 2) / 2)
  refine (h2.put (Mc:=G1 ++ [kd]) ((hR _ _ _ _ _ _ h1 h2 hL).weak fun b hb=>?_)).mono ?_
  · simp only [List.mem_append] at hb ⊢
    rcases hb with hb | hb | hb
    · exact .inr (.inl hb)
    · exact .inl hb
    · exact .inr (.inr hb)
  rintro e w' ⟨rfl,G2',h2',hO⟩
  rw [q3] at h2'
  obtain ⟨o1,o2,o3⟩:=own2 h1 h2 r1 hL g1 g2 hT hkp hkd h2' (Int.le_refl _) hc r2 hO
  exact ⟨_,G2,by rw [q1],q2,o1,o2,o3⟩
theorem OSt.cmp2 (h:OSt db L r s t d kd w0 la ln lc m i j dn w) (hm:m<1000):Calls Tryz.prog 14 #[.pointer (some ⟨t,0,none⟩)] w fun e w' => ∃l,e=.returned (.int .i64 0)∧KpL l w w'∧Late w0 kd l∧OSt db L r s t d kd w0 la ln lc (m+1) i j dn w':=by
  obtain ⟨⟨d1,st1,G1,st2,G2,c,h1,h2,hc,r1,r2,hL,g1,g2⟩,⟨T,hT⟩,hkp,hkd⟩:=h
  refine (h2.cmp (by omega)).mono ?_
  rintro e w' ⟨rfl,G2',h2',hO⟩
  obtain ⟨o1,o2,o3⟩:=own2 h1 h2 r1 hL g1 g2 hT hkp hkd h2' (by omega) (m':=m+1) (by omega) (r2.low h2.lo) hO
  exact ⟨G2,rfl,o1,o2,o3⟩
theorem OSt.opn2 (h:OSt db L r s t d kd w0 la ln lc m i j dn w) (hm:m<1000):Calls Tryz.prog 15 #[.pointer (some ⟨d,0,none⟩)] w fun e w' => ∃t' l,e=.returned (.tuple #[.pointer (some ⟨t',0,none⟩),.int .i64 0])∧KpL l w w'∧Late w0 kd l∧OSt db L r s t' d kd w0 la ln lc (m+1) i j dn w':=by
  obtain ⟨⟨d1,st1,G1,st2,G2,c,h1,h2,hc,r1,r2,hL,g1,g2⟩,⟨T,hT⟩,hkp,hkd⟩:=h
  refine (h2.opn (by omega)).mono ?_
  rintro e w' ⟨t',st',G2',rfl,hlk,h2',hO⟩
  obtain ⟨o1,o2,o3⟩:=own2 h1 h2 r1 hL g1 g2 hT hkp hkd h2' (by omega) (m':=m+1) (by omega) (r2.like h2.v hlk) hO
  exact ⟨t',G2,rfl,o1,o2,o3⟩
theorem OSt.note (h:OSt db L r s t d kd w0 la ln lc m i j dn w) {x:Nat} (hx:x<dn.length) (b:Bool):(∃l,LdA w ((⟨kd,0,none⟩:Addr).add (x*1)) l∧l.length=1)∧NotFrozen w ((⟨kd,0,none⟩:Addr).add (x*1)) 1∧((⟨kd,0,none⟩:Addr).add (x*1)).block=kd∧
    OSt db L r s t d kd w0 la ln lc m i j (dn.set x b) (stA w ((⟨kd,0,none⟩:Addr).add (x*1)) [.bool b] 0):=by
  obtain ⟨⟨d1,st1,G1,st2,G2,c,h1,h2,hc,r1,r2,hL,g1,g2⟩,⟨T,hT⟩,hkp,hkd⟩:=h
  obtain ⟨s1,s2,s3,s4,s5⟩:=Go.Vc.st1 (i:=x) (v:=.bool b) hT (by simpa using hx)
  have lk:=block_lt hT
  refine ⟨s1,s2,s3,⟨d1,st1,G1,st2,G2,c,h1.step s5 (by simp) fun y hy=>⟨.inl hy,Nat.lt_of_lt_of_le (h1.mlt y hy) s5.size⟩,h2.step s5 (by simp) fun y hy=>⟨.inl hy,Nat.lt_of_lt_of_le (h2.mlt y hy) s5.size⟩,hc,r1,r2,hL.kp s5 (by simp),g1,g2⟩,⟨T,?_⟩,hkp.more s5 (by simp;omega),hkd⟩
  rw [s4]
  simp [List.map_set]
theorem OSt.noted (h:OSt db L r s t d kd w0 la ln lc m i j dn w) {x:Nat} (hx:x<dn.length):LdA w ((⟨kd,0,none⟩:Addr).add (x*1)) [.bool dn[x]]:=by
  obtain ⟨_,⟨T,hT⟩,_,_⟩:=h
  rw [add_lit,Nat.zero_add,Nat.mul_one]
  refine ldA_blk hT x [_] ?_
  apply List.ext_getElem?
  intro y
  cases y with
  | zero=>simp [hx]
  | succ y=>simp;omega
end
end Go.Vc
namespace Go.Vc
open Go Go.Proofs
theorem ez4:ElZ Tryz.prog 44 4 (.bool false) 1:=elZ_of' (by kernel_rfl) (by kernel_rfl) (z:=.bool false) (by kernel_rfl) rfl
theorem note_set {α:Type} {L:List α} {f:α→Bool} {i:Nat} (hi:i<L.length):((L.take i).map f++List.replicate (L.length - i) false).set i (f L[i])=(L.take (i+1)).map f++List.replicate (L.length - (i+1)) false:=by
  have e1:L.length - i=L.length - (i+1)+1:=by omega
  have e2:((L.take i).map f).length=i:=by simp;omega
  rw [e1,List.replicate_succ,List.set_append,if_neg (by omega),e2,Nat.sub_self,List.set_cons_zero,←List.take_append_getElem hi,List.map_append,List.append_assoc]
  rfl
theorem beq_no {a b:Bool} (h:(!a == b)=true) (e:b=a):False:=by subst e;simp at h
theorem R.mkStp {M:List Nat} {w:World} {b:Bt} {a:Option Addr} {n c:Nat} (hb:R tBt M w b [.string b.token,.int .i64 b.stamp,.string b.array,.slice a n c]) :
    R tStp M w ⟨b,false,false,⟨0,[],0⟩⟩ [.string b.token,.int .i64 b.stamp,.string b.array,.slice a n c,.bool false,.bool false,.int .u16 0,.slice none 0 0,.int .u8 0] :=
  ⟨[_,_,_,_],[_,_,_,_,_],rfl,hb,[_],[_,_,_,_],rfl,rfl,[_],[_,_,_],rfl,rfl,[_],[_,_],rfl,⟨rfl,ini_u16.2 (by dsimp only;omega)⟩,[_],[_],rfl,⟨none,0,rfl,Nat.le_refl _,by simp,fun hc=>absurd rfl hc⟩,rfl,ini_u8.2 (by dsimp only;omega)⟩
set_option maxHeartbeats 8000000 in
theorem gOrder_ok {w:World} {db:List Nm} {l:List Bt} {dba:Option Addr} {dbn dbc:Nat} {la:Option Addr} {ln lc:Nat} {u0 u1:Int} (hdb:R (tSl tNm) [] w db [.slice dba dbn dbc]) (hl:R (tSl tBt) [] w l [.slice la ln lc]) (hu1:0≤u1∧u1≤65535) :
    Calls Tryz.prog 3 #[.slice dba dbn dbc,.slice la ln lc,.agg #[.int .u16 u0,.int .u16 u1]] w (PureR (.bool true) w):=by
  obtain ⟨rfl,_,_⟩:=hdb.sl_len
  obtain ⟨rfl,_,_⟩:=hl.sl_len
  have hmx:maxSl=140737488355328:=rfl
  have works : ∀{wa wb:World},KpL [] w wa→KpL [] wa wb→PureR (.bool true) w (.returned (.bool true)) wb:=fun h1 h2=>⟨rfl,h1.trans h2⟩
  refine gOrder_vc fun k1 hk1 w1 hw1 hkn1=>⟨(lfew_ok (hdb.kp0 hw1)).mono ?_⟩
  rintro e w2 ⟨b1,rfl,hw2,hfew⟩
  have hk02:=hw1.trans hw2
  refine ⟨_,rfl,hw2,fun hb=>?_,fun hb _=>⟨(lworks_ok w2).mono ?_⟩⟩
  rotate_left
  · rintro e w3 ⟨rfl,hw3⟩
    exact ⟨_,rfl,hw3,fun _=>works hk02 hw3⟩
  obtain ⟨hf1,hf2⟩:=hfew (nb_f hb)
  refine ⟨fun _ _=>⟨(lworks_ok w2).mono ?_⟩,fun hle=>?_⟩
  · rintro e w3 ⟨rfl,hw3⟩
    exact ⟨_,rfl,hw3,fun _=>works hk02 hw3⟩
  refine ⟨fun vs w' => ∃i:Nat,vs = [.int .i64 (i:Int)]∧i≤l.length∧KpL [] w w'∧∀b∈l.take i,b.changes.length≤4,fun vs _=>match vs with | [.int _ i]=>l.length - i.toNat | _=>0,fun _=>⟨0,rfl,by omega,hk02,by simp⟩,?_⟩
  rintro n1 w4 ⟨i,hv,hi,hk04,hall⟩
  simp only [List.cons.injEq,Value.int.injEq,true_and,and_true] at hv
  subst hv
  constructor
  · intro hlt
    have gi:i<l.length:=by omega
    obtain ⟨ad,cs,rfl,hv1,hld,_,_⟩:=(hl.kp0 hk04).sl_get gi
    have hv0:=hv1
    obtain ⟨xa,xn,xc,rfl,_,_,_,_⟩:=hv1.bt
    refine ⟨ad,rfl,by omega,hlt,fun _=>⟨_,_,_,_,_,_,hld,fun k4 hk4 w5 hw5 hkn5=>⟨(lfits_ok (one_R (t:=tStp) (M:=[]) hkn5.1 (by simp) (R.mkStp (hv0.kp0 hw5)))).mono ?_⟩⟩⟩
    rintro e w6 ⟨b3,rfl,hw6,hh⟩
    refine ⟨_,rfl,hw6,fun _ _=>⟨(lworks_ok w6).mono ?_⟩,fun hb3=>⟨ini_i64.2 (by omega),fun _=>⟨⟨i+1,rfl,by omega,(hk04.trans hw5).trans hw6,fun b hb=>?_⟩,by dsimp only;omega⟩⟩⟩
    · rintro e w7 ⟨rfl,hw7⟩
      exact ⟨_,rfl,hw7,fun _=>works ((hk04.trans hw5).trans hw6) hw7⟩
    · rw [←List.take_append_getElem gi] at hb
      rcases List.mem_append.1 hb with hb | hb
      · exact hall b hb
      · simp at hb
        subst hb
        exact ((hh (nb_f hb3)).2 ⟨l[i],false,false,⟨0,[],0⟩⟩ (by simp)).1
  intro hge hkn4
  have hie:i=l.length:=by omega
  subst hie
  rw [List.take_length] at hall
  refine ⟨(ldistinct_ok (M:=[]) (by simp) (hl.kp0 hk04) (by omega)).mono ?_⟩
  rintro e w8 ⟨L,a2,n2,c2,rfl,hw8,hsub,hnd,hlen,hL⟩
  have hk08:=hk04.trans hw8
  have hpl:(fmtPl 0 db).length≤32:=by have:=fmtPl_len (m:=8) (l:=db) (i:=0) hf2;omega
  obtain ⟨hn2,_,_⟩:=hL.sl_len
  subst hn2
  refine ⟨_,_,_,rfl,hw8,fun hkn8=>⟨(lformatted_ok (M:=[]) (by simp) (n:=1024) (by omega) (by omega) (hdb.kp0 hk08) (by omega)).mono ?_⟩⟩
  have hk1l:=block_lt hkn8
  rintro e w9 ⟨hw9,hh⟩
  by_cases hok:okDb 1024 db
  rotate_left
  · rw [if_neg hok] at hh
    obtain ⟨a3,a4,rfl⟩:=hh
    refine ⟨_,_,_,rfl,[],hw9,⟨by simp⟩,fun _=>⟨(lformatted_ok (M:=[]) (by simp) (n:=1024) (by omega) (by omega) (hdb.kp0 (hk08.trans hw9)) (by omega)).mono ?_⟩⟩
    rintro e w10 ⟨hw10,hh2⟩
    rw [if_neg hok] at hh2
    obtain ⟨a5,a6,rfl⟩:=hh2
    refine ⟨_,_,_,rfl,[],hw10,⟨by simp⟩,fun hc=>(by cases hc),fun _=>⟨fun _ _=>⟨(lworks_ok w10).mono ?_⟩,fun hc=>(by cases hc)⟩⟩
    rintro e w11 ⟨rfl,hw11⟩
    exact ⟨_,rfl,hw11,fun _=>works ((hk08.trans hw9).trans hw10) hw11⟩
  rw [if_pos hok] at hh
  obtain ⟨d1,s,G1,i1,rfl,hS,hG1⟩:=hh
  refine ⟨_,_,_,rfl,[],hw9,⟨by simp⟩,fun _=>⟨(lformatted_ok (M:=G1) (fun b hb=>(hS.own_lt b hb).1) (n:=1024) (by omega) (by omega) (hdb.kp0 (hk08.trans hw9)) (by omega)).mono ?_⟩⟩
  rintro e w10 ⟨hw10,hh2⟩
  rw [if_pos hok] at hh2
  obtain ⟨d,t,G2,i2,rfl,hT,hG2⟩:=hh2
  refine ⟨_,_,_,rfl,[],hw10,⟨by simp⟩,fun _=>⟨fun _=>⟨fun hz=>⟨fun _ _=>⟨(lworks_ok w10).mono ?_⟩,fun hc=>(by simp at hc)⟩,fun hnz _=>?_⟩,fun hc=>(by cases hc)⟩,fun hc=>(by cases hc)⟩
  · rintro e w11 ⟨rfl,hw11⟩
    exact ⟨_,rfl,hw11,fun _=>works ((hk08.trans hw9).trans hw10) hw11⟩
  have s89:=hw9.size
  have s910:=hw10.size
  refine ev_make ez4 (by omega) (by omega) (by omega) fun w12 hb12 hw12=>⟨_,_,_,rfl,[],hw12,⟨by simp⟩,?_⟩
  have hr0:0≤Int.tmod u1 L.length∧Int.tmod u1 L.length<L.length:=⟨by rw [Int.tmod_eq_emod_of_nonneg hu1.1];exact Int.emod_nonneg _ (by omega),by rw [Int.tmod_eq_emod_of_nonneg hu1.1];exact Int.emod_lt_of_pos _ (by omega)⟩
  obtain ⟨r,hr⟩ : ∃r:Nat,Int.tmod u1 L.length=(r:Int):=⟨(Int.tmod u1 L.length).toNat,by omega⟩
  rw [hr] at hr0
  have hoo:OOk db L r:=⟨by omega,by omega,hnd,fun b hb=>hall b (hsub b hb),by
    show 1+8*((db.map fmtArr).length:Int)+3*((fmtPl 0 db).length:Int)+(([]:List Seen).length:Int)≤129
    simp only [List.length_map,List.length_nil]
    omega⟩
  have hkd:w8.heap.size≤w10.heap.size:=by omega
  have ekd:((L.length:Nat):Int).toNat=L.length:=by omega
  rw [ekd] at hb12
  have O0:OSt db L r s t d w10.heap.size w8 a2 L.length c2 1 0 0 ((L.take 0).map (chk db)++List.replicate (L.length - 0) false) w12:=by
    have s12:=hw12.size
    have lk:=block_lt hb12
    have hS12:SysL (G2 ++ [w10.heap.size]) w12 s d1 1024 1 { fmtSto db with id:=i1 } G1:=hS.step (hw10.trans hw12) (by simp) fun b hb=>by
      rcases List.mem_append.1 hb with hb | hb
      · exact ⟨.inr (hG2 b hb),by have:=(hT.own_lt b hb).1;omega⟩
      · simp at hb;subst hb;exact ⟨.inr (by omega),lk⟩
    have hT12:SysL (G1 ++ [w10.heap.size]) w12 t d 1024 1 { fmtSto db with id:=i2 } G2:=hT.step hw12 (by simp) fun b hb=>by
      rcases List.mem_append.1 hb with hb | hb
      · exact ⟨.inl hb,by have:=(hS.own_lt b hb).1;omega⟩
      · simp at hb;subst hb;exact ⟨.inr (Nat.le_refl _),lk⟩
    refine ⟨⟨d1,_,G1,_,G2,1,hS12,hT12,by omega,Run.start i1,Run.start i2,?_,hG1,fun b hb=>by have:=hG2 b hb;omega⟩,⟨4,?_⟩,(hw9.trans hw10).trans hw12,hkd⟩
    · have:=hL.fresh (N:=G1++(G2 ++ [w10.heap.size])) ((hw9.trans hw10).trans hw12) fun b hb=>by
        simp only [List.mem_append,List.mem_singleton] at hb
        rcases hb with hb | hb | rfl
        · exact hG1 b hb
        · have:=hG2 b hb;omega
        · exact hkd
      exact this.weak (by simp)
    · rw [hb12]
      simp
  generalize hKD:w10.heap.size=kd at *
  rw [ekd]
  have hk1kd:k1≠kd:=by omega
  have late : ∀{l:List Nat},Late w8 kd l→NotIn k1 l:=fun h=>⟨fun hm=>by have:=(h k1 hm).1;omega⟩
  refine ⟨fun vs w' => ∃i:Nat,vs = [.int .i64 (i:Int)]∧i≤L.length∧OSt db L r s t d kd w8 a2 L.length c2 1 i 0 ((L.take i).map (chk db)++List.replicate (L.length - i) false) w',fun vs _=>match vs with | [.int _ i]=>L.length - i.toNat | _=>0,fun _=>⟨0,rfl,by omega,O0⟩,?_⟩
  rintro n3 w13 ⟨i,hv,hi,O13⟩
  simp only [List.cons.injEq,Value.int.injEq,true_and,and_true] at hv
  subst hv
  constructor
  · intro hlt
    have gi:i<L.length:=by omega
    obtain ⟨ad,ca,cn,cc,hla,hld,hcall⟩:=O13.put1 hoo gi
    refine ⟨ad,hla,by omega,hlt,fun _=>⟨_,_,_,_,_,_,hld,fun _=>⟨hcall.mono ?_⟩⟩⟩
    rintro e w14 ⟨n,l',rfl,hn,hkp,hlate,O14⟩
    obtain ⟨q1,q2,q3,q4⟩:=O14.note (x:=i) (by simp;omega) (chk db L[i])
    refine ⟨_,n,rfl,l',hkp,late hlate,fun hc=>(beq_no hc hn).elim,fun _=>⟨⟨kd,0,none⟩,rfl,by omega,hlt,fun _=>⟨q1,q2,⟨fun hm=>hk1kd ((List.mem_singleton.1 hm).trans q3)⟩,?_⟩⟩⟩
    rintro w15 rfl
    refine ⟨ini_i64.2 (by omega),fun _=>⟨⟨i+1,rfl,by omega,?_⟩,by dsimp only;omega⟩⟩
    rw [note_set gi] at q4
    exact q4
  intro hge
  have hie:i=L.length:=by omega
  subst hie
  rw [List.take_length,Nat.sub_self,List.replicate_zero,List.append_nil] at O13
  refine ⟨fun vs w' => ∃(j t':Nat),vs = [.pointer (some ⟨t',0,none⟩),.int .i64 (j:Int)]∧j≤L.length∧OSt db L r s t' d kd w8 a2 L.length c2 (1+2*j) L.length j (L.map (chk db)) w',fun vs _=>match vs with | [_,.int _ j]=>L.length - j.toNat | _=>0,fun _=>⟨0,t,rfl,by omega,O13⟩,?_⟩
  rintro a9 n6 w16 ⟨j,t',hv,hj,O16⟩
  simp only [List.cons.injEq,Value.int.injEq,Value.pointer.injEq,true_and,and_true] at hv
  obtain ⟨rfl,rfl⟩:=hv
  constructor
  · intro hlt
    have gj:j<L.length:=by omega
    have hlen12:=hoo.len
    have hidx:Int.tmod (Int.tmod u1 ↑L.length + ↑L.length - (j:Int)) ↑L.length=((ordK L.length r j:Nat):Int):=by rw [hr];exact ordK_mod hoo.r gj
    have hlt2:=ordK_lt hoo.r gj
    rw [hidx,hr]
    obtain ⟨ad,ca,cn,cc,hla,hld,hcall⟩:=O16.put2 hoo gj
    refine ⟨ini_i64.2 (by omega),by omega,ini_i64.2 (by omega),ini_i64.2 (by omega),by omega,ad,hla,by omega,by omega,fun _=>⟨_,_,_,_,_,_,hld,fun _=>⟨hcall.mono ?_⟩⟩⟩
    rintro e w17 ⟨n,l',rfl,hn,hkp,hlate,O17⟩
    have hnt:=O17.noted (x:=ordK L.length r j) (by simpa using hlt2)
    rw [List.getElem_map] at hnt
    refine ⟨_,n,rfl,l',hkp,late hlate,⟨kd,0,none⟩,rfl,by omega,by omega,fun _=>⟨_,hnt,fun _=>⟨fun hc=>(beq_no hc hn).elim,fun _=>⟨by omega,by omega,fun _ _=>?_,fun _=>?_⟩⟩,fun hc=>(beq_no hc rfl).elim⟩⟩
    · refine ⟨(O17.cmp2 (by omega)).mono ?_⟩
      rintro e w18 ⟨l7,rfl,hkp7,hlate7,O18⟩
      refine ⟨_,rfl,l7,hkp7,late hlate7,fun hc=>absurd rfl hc,fun _=>⟨ini_i64.2 (by omega),by omega,by omega,fun _ _=>⟨(O18.opn2 (by omega)).mono ?_⟩,fun _=>⟨ini_i64.2 (by omega),fun _=>⟨⟨j+1,t',rfl,by omega,O18.up (by omega)⟩,by dsimp only;omega⟩⟩⟩⟩
      rintro e w19 ⟨t2,l8,rfl,hkp8,hlate8,O19⟩
      exact ⟨_,_,rfl,l8,hkp8,late hlate8,fun hc=>absurd rfl hc,fun _=>⟨ini_i64.2 (by omega),fun _=>⟨⟨j+1,t2,rfl,by omega,O19.up (by omega)⟩,by dsimp only;omega⟩⟩⟩
    · refine ⟨ini_i64.2 (by omega),by omega,by omega,fun _ _=>⟨(O17.opn2 (by omega)).mono ?_⟩,fun _=>⟨ini_i64.2 (by omega),fun _=>⟨⟨j+1,t',rfl,by omega,O17.up (by omega)⟩,by dsimp only;omega⟩⟩⟩
      rintro e w19 ⟨t2,l8,rfl,hkp8,hlate8,O19⟩
      exact ⟨_,_,rfl,l8,hkp8,late hlate8,fun hc=>absurd rfl hc,fun _=>⟨ini_i64.2 (by omega),fun _=>⟨⟨j+1,t2,rfl,by omega,O19.up (by omega)⟩,by dsimp only;omega⟩⟩⟩
  intro hge2
  have hje:j=L.length:=by omega
  subst hje
  refine ⟨fun vs w' => ∃x:Nat,vs = [.int .i64 (x:Int)]∧x≤L.length∧OSt db L r s t' d kd w8 a2 L.length c2 (1+2*L.length) L.length L.length (L.map (chk db)) w',fun vs _=>match vs with | [.int _ x]=>L.length - x.toNat | _=>0,fun _=>⟨0,rfl,by omega,O16⟩,?_⟩
  rintro n12 w21 ⟨x,hv,hx,O21⟩
  simp only [List.cons.injEq,Value.int.injEq,true_and,and_true] at hv
  subst hv
  constructor
  · intro hlt
    have gx:x<L.length:=by omega
    obtain ⟨ad,ca,cn,cc,hla,hld,hcall⟩:=O21.again gx
    refine ⟨ad,hla,by omega,hlt,fun _=>⟨_,_,_,_,_,_,hld,fun _=>⟨hcall.mono ?_⟩⟩⟩
    rintro e w22 ⟨n,l',rfl,hn,hkp,hlate,O22⟩
    have hnt:=O22.noted (x:=x) (by simpa using gx)
    rw [List.getElem_map] at hnt
    refine ⟨_,n,rfl,l',hkp,late hlate,fun _=>⟨⟨kd,0,none⟩,rfl,by omega,hlt,fun _=>⟨_,hnt,fun hc=>(beq_no hc hn.symm).elim,fun _=>⟨ini_i64.2 (by omega),fun _=>⟨⟨x+1,rfl,by omega,O22⟩,by dsimp only;omega⟩⟩⟩⟩,fun hc=>(by cases hc)⟩
  intro hge3 _
  have hk821:=O21.kp
  obtain ⟨⟨d1',st1,H1,st2,H2,c,h1,h2,_,r1,r2,_,_,_⟩,_,_,_⟩:=O21
  have hsame:=r1.aft.same r2.aft (fun b=>by
    rw [List.take_length,←ord_len L r,List.take_length,List.mem_filter,List.mem_filter,(ord_perm L r).mem_iff])
  have harr:st1.arrays=st2.arrays:=r1.aft.arr.trans r2.aft.arr.symm
  refine ⟨(h1.db (N:=[]) (by simp)).mono ?_⟩
  rintro e w23 ⟨hk23,A,aa,am,aq,rfl,hAl,hAr,hAR⟩
  refine ⟨_,_,_,_,rfl,hk23,fun _=>⟨((h2.kp0 hk23).db (N:=[]) (by simp)).mono ?_⟩⟩
  rintro e w24 ⟨hk24,B,ba,bm,bq,rfl,hBl,hBr,hBR⟩
  have hk024:KpL [] w w24:=((hk08.trans hk821).trans hk23).trans hk24
  obtain ⟨rfl,_,_⟩:=hAR.sl_len
  obtain ⟨rfl,_,_⟩:=hBR.sl_len
  have hAB:A.length=B.length:=by rw [hAl,hBl,harr]
  refine ⟨_,_,_,_,rfl,hk24,fun _=>⟨fun _=>⟨fun hc=>absurd (by omega) hc,fun _=>?_⟩,fun hc=>absurd rfl hc⟩,fun hc=>absurd rfl hc⟩
  refine ⟨fun vs w' => ∃i:Nat,vs = [.int .i64 (i:Int)]∧i≤A.length∧KpL [] w24 w',fun vs _=>match vs with | [.int _ i]=>A.length - i.toNat | _=>0,fun _=>⟨0,rfl,by omega,KpL.refl _ _⟩,?_⟩
  rintro n17 w25 ⟨i,hv,hi,hk25⟩
  simp only [List.cons.injEq,Value.int.injEq,true_and,and_true] at hv
  subst hv
  constructor
  · intro hlt
    have gA:i<A.length:=by omega
    have gB:i<B.length:=by omega
    obtain ⟨hnm,hsm⟩:=db_eq h1.v h2.v harr hsame hAr hBr (List.getElem?_eq_getElem gA) (List.getElem?_eq_getElem gB)
    obtain ⟨ad,cs,rfl,hvA,_,_,_,hptA⟩:=((hAR.kp0 hk24).kp0 hk25).sl_get2 gA
    obtain ⟨b1,p1,q1,b2,p2,q2,b3,p3,q3,rfl,_,x1,x2,x3⟩:=hvA.nm
    obtain ⟨bd,cs',rfl,hvB,_,_,_,hptB⟩:=(hBR.kp0 hk25).sl_get2 gB
    obtain ⟨e1,f1,g1,e2,f2,g2,e3,f3,g3,rfl,_,y1,y2,y3⟩:=hvB.nm
    refine ⟨ad,rfl,by omega,hlt,_,hptA 0 [_] rfl,bd,rfl,by omega,by omega,_,hptB 0 [_] rfl,fun _=>⟨ad,rfl,by omega,hlt,_,_,_,_,_,_,_,_,_,hptA 1 [_,_,_] rfl,bd,rfl,by omega,by omega,_,_,_,_,_,_,_,_,_,hptB 1 [_,_,_] rfl,fun w26 hw26 _=>⟨(same_ok (x1.kp0 hw26) (x2.kp0 hw26) (x3.kp0 hw26) (y1.kp0 hw26) (y2.kp0 hw26) (y3.kp0 hw26)).mono ?_⟩⟩,fun hc=>absurd hnm hc⟩
    rintro e w27 ⟨rfl,hw27⟩
    rw [hsm]
    exact ⟨_,rfl,hw27,fun hc=>(by cases hc),fun _=>⟨ini_i64.2 (by omega),fun _=>⟨⟨i+1,rfl,by omega,(hk25.trans hw26).trans hw27⟩,by dsimp only;omega⟩⟩⟩
  · intro _ _
    refine ⟨(lworks_ok w25).mono ?_⟩
    rintro e w29 ⟨rfl,hw29⟩
    exact ⟨_,rfl,hw29,fun _=>works (hk024.trans hk25) hw29⟩
end Go.Vc
namespace Go.Vc
open Go Go.Proofs
def Opn {α:Type} (t:TypeId) (e:Ty α):Prop:=Tryz.prog.cellsOf t=e.sz∧∀{H:Type} {enc:TypeId×Value→H} {w:World} {n:Nat} {cs:List Value} {x:DataW H×List MemPlace},
  DataW.trod enc Tryz.prog w 0 (fun _=>true) true n t cs=some x→(∀m∈x.1.weights Tryz.prog t,m≤reachBytes)→∃a:α,e.rel (fun b=>b<w.heap.size) w a cs
theorem Opn.R {α:Type} {t:TypeId} {e:Ty α} (h:Opn t e) {H:Type} {enc:TypeId×Value→H} {w:World} {v:Value} {d:DataW H} {ps:List MemPlace} (hx:DataW.Trod enc Tryz.prog w 0 (fun _=>true) true t v d ps) (hw : ∀m∈d.weights Tryz.prog t,m≤reachBytes) : ∃a:α,R e [] w a v.cells.toList:=by
  obtain ⟨n,hn⟩:=hx
  obtain ⟨a,ha⟩:=h.2 hn hw
  exact ⟨a,e.mono ha fun b hb=>⟨⟨hb,by simp⟩,rfl⟩⟩
theorem opn_int {t:TypeId} {k:IntKind} (ht:Tryz.prog.underlying t=some (.int k)) (hc:Tryz.prog.cellsOf t=1):Opn t (tI k):=by
  refine ⟨hc,fun hx _=>?_⟩
  obtain ⟨n,rfl,_,hw⟩:=DataW.trod_int ht hx
  simp only [Lit.wf,Bool.and_eq_true,decide_eq_true_eq] at hw
  exact ⟨n,rfl,⟨hw.1,hw.2⟩⟩
def tS':Ty ByteArray where
  sz:=1
  rel:=fun _ _ x cs=>cs = [.string x]∧x.size≤maxSl
  len:=by rintro _ _ _ _ ⟨rfl,_⟩;rfl
  one:=by rintro _ _ _ _ ⟨rfl,_⟩ v hv;simp at hv;subst hv;rfl
  mono:=fun h _=>h
theorem opn_string {t:TypeId} (ht:Tryz.prog.underlying t=some .string) (hc:Tryz.prog.cellsOf t=1):Opn t tS':=by
  refine ⟨hc,fun hx hw=>?_⟩
  obtain ⟨s,rfl,rfl,hs⟩:=DataW.trod_string ht hx
  refine ⟨s,rfl,?_⟩
  have:=hw s.data.toList.length (by simp [DataW.weights])
  have e:s.data.toList.length=s.size:=rfl
  unfold reachBytes at this
  have:maxSl=140737488355328:=rfl
  omega
theorem list_choose {α:Type} {p:Nat→α→Prop} : ∀{n:Nat},(∀i,i<n→∃y,p i y)→∃xs:List α,xs.length=n∧∀i y,xs[i]?=some y→p i y
  | 0,_=>⟨[],rfl,by simp⟩
  | n+1,h=>by
    obtain ⟨xs,h1,h2⟩:=list_choose (n:=n) fun i hi=>h i (by omega)
    obtain ⟨y,hy⟩:=h n (by omega)
    refine ⟨xs ++ [y],by simp [h1],fun i z hz=>?_⟩
    by_cases hi:i<n
    · rw [List.getElem?_append_left (by omega)] at hz
      exact h2 i z hz
    · rw [List.getElem?_append_right (by omega)] at hz
      have hi':i=n:=by
        have:=(List.getElem?_eq_some_iff.1 hz).1
        simp at this
        omega
      subst hi'
      rw [h1,Nat.sub_self] at hz
      simp at hz
      subst hz
      exact hy
theorem cell_blk {w:World} {a:Addr} {v:Value} (h:w.cell? a=some v) : ∃c T fz,a.spot=none∧w.heap[a.block]?=some (.cells c T fz)∧c[a.off]?=some v:=by
  unfold World.cell? at h
  split at h
  · rename_i c T fz hc
    split at h
    · cases h
    · rename_i hs
      exact ⟨c,T,fz,by simpa using hs,hc,h⟩
  · cases h
theorem weightsAll_mem {H:Type} {e:TypeId} : ∀{l:List (DataW H)} {d:DataW H},d∈l→∀m∈d.weights Tryz.prog e,m∈DataW.weightsAll Tryz.prog e l
  | a::r,d,hd,m,hm=>by
    rw [DataW.weightsAll,List.mem_append]
    rcases List.mem_cons.1 hd with rfl | hd
    · exact .inl hm
    · exact .inr (weightsAll_mem hd m hm)
theorem opn_slice {α:Type} {t e:TypeId} {te:Ty α} (ht:Tryz.prog.underlying t=some (.slice e)) (hc:Tryz.prog.cellsOf t=1) (h:Opn e te) (h1:1≤te.sz) (hby:1≤Tryz.prog.bytesOf e):Opn t (tSl te):=by
  refine ⟨hc,fun {H enc w n cs x} hx hw=>?_⟩
  rcases Deep.open_slice ht hx with ⟨rfl,_⟩ | ⟨a,len,cap,m,n',D,Pl,rfl,hb,hl,hm,hmm,rfl,hall⟩
  · exact ⟨[],none,0,rfl,Nat.le_refl _,by simp,fun hc=>absurd rfl hc⟩
  · have hmc:m=cap:=by simpa using hmm
    obtain ⟨xs,hlen,hxs⟩:=list_choose (n:=len) (p:=fun i (y:α) => ∃cs',w.cells? 0 (a.add (i*Tryz.prog.cellsOf e)) (Tryz.prog.cellsOf e)=some cs'∧te.rel (fun b=>b<w.heap.size) w y cs') fun i hi=>by
      obtain ⟨cs',g1,g2⟩:=hall i (by omega)
      obtain ⟨y,hy⟩:=h.2 g2 fun m' hm'=>hw m' (by
        simp only [DataW.weights,ht,List.mem_cons,List.mem_append]
        exact .inr (.inl (weightsAll_mem (List.mem_map.2 ⟨i,by simpa using hi,rfl⟩) m' hm')))
      exact ⟨y,cs',g1,hy⟩
    subst hlen
    refine ⟨xs,some a,cap,rfl,hl,?_,fun hne=>?_⟩
    · have:=hw _ (by simp only [DataW.weights,ht];exact List.mem_cons_self ..)
      simp only [List.length_map,List.length_range] at this
      have h3:xs.length*1≤(xs.length+(m - xs.length))*Tryz.prog.bytesOf e:=Nat.mul_le_mul (by omega) hby
      unfold reachBytes at this
      have:maxSl=140737488355328:=rfl
      omega
    · have h0:0<xs.length:=by
        cases xs with
        | nil=>exact absurd rfl hne
        | cons _ _=>simp
      obtain ⟨cs0,g1,g2⟩:=hxs 0 xs[0] (List.getElem?_eq_getElem h0)
      rw [h.1] at g1
      obtain ⟨_,hl0,hc0⟩:=World.cells?_some g1
      have g3:=hc0 0 (by omega)
      rw [List.getElem?_eq_getElem (by omega),Nat.zero_mul] at g3
      obtain ⟨arr,T,fz,e1,e2,e3⟩:=cell_blk g3
      obtain ⟨b,off,sp⟩:=a
      have esp:sp=none:=by
        cases sp with
        | none=>rfl
        | some s=>simp [Addr.add] at e1
      subst esp
      rw [add_lit,add_lit] at e2
      dsimp only at e2
      refine ⟨b,off,arr,T,fz,rfl,block_lt e2,e2,fun i y hy=>?_⟩
      obtain ⟨cs',q1,q2⟩:=hxs i y hy
      rw [h.1] at q1
      obtain ⟨_,hl',hc'⟩:=World.cells?_some q1
      refine ⟨cs',q2,fun j v hv=>?_⟩
      have hj:=(List.getElem?_eq_some_iff.1 hv).1
      have q3:=hc' j (by omega)
      rw [hv,add_lit,add_lit] at q3
      obtain ⟨arr',T',fz',_,e5,e6⟩:=cell_blk q3
      dsimp only at e5 e6
      rw [e2] at e5
      simp only [Option.some.injEq,Obj.cells.injEq] at e5
      obtain ⟨rfl,_,_⟩:=e5
      rw [Array.getElem?_toList]
      exact e6
theorem trod_field {H:Type} {enc:TypeId×Value→H} {w:World} {n:Nat} {t:TypeId} {fs:Array Field} {cs:List Value} {x:DataW H×List MemPlace} (ht:Tryz.prog.underlying t=some (.struct fs)) (hx:DataW.trod enc Tryz.prog w 0 (fun _=>true) true n t cs=some x) {α:Type} {e:Ty α} {f:Field} (i:Nat) (hf:fs[i]?=some f) (h:Opn f.type e) (hw : ∀m∈x.1.weights Tryz.prog t,m≤reachBytes) :
    ∃a:α,e.rel (fun b=>b<w.heap.size) w a ((cs.drop f.offset).take e.sz):=by
  obtain ⟨xs,m,_,rfl,_,hlen,hall⟩:=DataW.trod_struct ht hx
  have g:=hall i f hf
  have hi:i<fs.size:=(Array.getElem?_eq_some_iff.1 hf).1
  have hi':i<xs.length:=by omega
  rw [List.getElem?_eq_getElem hi',h.1] at g
  refine h.2 g fun m' hm'=>hw m' ?_
  simp only [DataW.weights,ht]
  exact DataW.weights_mem_each (j:=i) (by rw [List.getElem?_map,Array.getElem?_toList,hf];rfl) (by rw [List.getElem?_map,List.getElem?_eq_getElem hi'];rfl) m' hm'
theorem trod_structLen {H:Type} {enc:TypeId×Value→H} {w:World} {n:Nat} {t:TypeId} {fs:Array Field} {cs:List Value} {x:DataW H×List MemPlace} (ht:Tryz.prog.underlying t=some (.struct fs)) (hx:DataW.trod enc Tryz.prog w 0 (fun _=>true) true n t cs=some x):cs.length=Tryz.prog.cellsOf t:=by
  obtain ⟨xs,m,_,_,h,_⟩:=DataW.trod_struct ht hx
  exact h
theorem opn3:Opn 3 (tI .i64):=opn_int Tryz.underlying3 (by kernel_rfl)
theorem opn2:Opn 2 (tI .i64):=opn_int Tryz.underlying2 (by kernel_rfl)
theorem opn9:Opn 9 tS':=opn_string Tryz.underlying9 (by kernel_rfl)
theorem opn78:Opn 78 (tSl (tI .i64)):=opn_slice Tryz.underlying78 (by kernel_rfl) opn3 (by decide) (by decide +kernel)
theorem opn153:Opn 153 tDim:=by
  refine ⟨by kernel_rfl,fun {H enc w n cs x} hx hw=>?_⟩
  have hl:=trod_structLen Tryz.underlying153 hx
  have hc:Tryz.prog.cellsOf 153=3:=by kernel_rfl
  rw [hc] at hl
  obtain ⟨a,ha⟩:=trod_field Tryz.underlying153 hx 0 rfl opn9 hw
  obtain ⟨b,hb⟩:=trod_field Tryz.underlying153 hx 1 rfl opn3 hw
  obtain ⟨c,hc⟩:=trod_field Tryz.underlying153 hx 2 rfl opn3 hw
  match cs,hl,ha,hb,hc with
  | [c0,c1,c2],_,⟨h1,h2⟩,⟨h3,h4⟩,⟨h5,h6⟩ =>
    simp [tS',tI] at h1 h3 h5
    subst h1 h3 h5
    exact ⟨⟨a,b,c⟩,rfl,h2,h4,h6⟩
theorem opn156:Opn 156 tAttr:=by
  refine ⟨by kernel_rfl,fun {H enc w n cs x} hx hw=>?_⟩
  have hl:=trod_structLen Tryz.underlying156 hx
  have hc:Tryz.prog.cellsOf 156=2:=by kernel_rfl
  rw [hc] at hl
  obtain ⟨a,ha⟩:=trod_field Tryz.underlying156 hx 0 rfl opn9 hw
  obtain ⟨b,hb⟩:=trod_field Tryz.underlying156 hx 1 rfl opn3 hw
  match cs,hl,ha,hb with
  | [c0,c1],_,⟨h1,h2⟩,⟨h3,h4⟩ =>
    simp [tS',tI] at h1 h3
    subst h1 h3
    exact ⟨⟨a,b⟩,rfl,h2,h4⟩
theorem opn161:Opn 161 tVal:=by
  refine ⟨by kernel_rfl,fun {H enc w n cs x} hx hw=>?_⟩
  have hl:=trod_structLen Tryz.underlying161 hx
  have hc:Tryz.prog.cellsOf 161=4:=by kernel_rfl
  rw [hc] at hl
  obtain ⟨a,ha⟩:=trod_field Tryz.underlying161 hx 0 rfl opn3 hw
  obtain ⟨b,hb⟩:=trod_field Tryz.underlying161 hx 1 rfl opn2 hw
  obtain ⟨c,hc⟩:=trod_field Tryz.underlying161 hx 2 rfl opn2 hw
  obtain ⟨d,hd⟩:=trod_field Tryz.underlying161 hx 3 rfl opn9 hw
  match cs,hl,ha,hb,hc,hd with
  | [c0,c1,c2,c3],_,⟨h1,h2⟩,⟨h3,h4⟩,⟨h5,h6⟩,⟨h7,h8⟩ =>
    simp [tS',tI] at h1 h3 h5 h7
    subst h1 h3 h5 h7
    exact ⟨⟨a,b,c,d⟩,rfl,h2,h4,h6,h8⟩
theorem opn79:Opn 79 (tSl tVal):=opn_slice Tryz.underlying79 (by kernel_rfl) opn161 (by decide) (by decide +kernel)
theorem opn_cell {t : TypeId} (ht : Tryz.prog.underlying t = some (.struct #[⟨"At",78,0,false, "", "",0⟩,⟨"Vals",79,1,false, "", "",24⟩])) (hc : Tryz.prog.cellsOf t = 2) : Opn t tCell := by
  refine ⟨hc,fun {H enc w n cs x} hx hw=>?_⟩
  have hl:=trod_structLen ht hx
  rw [hc] at hl
  obtain ⟨a,ha⟩:=trod_field ht hx 0 rfl opn78 hw
  obtain ⟨b,hb⟩:=trod_field ht hx 1 rfl opn79 hw
  match cs,hl,ha,hb with
  | [c0,c1],_,h1,h2=>exact ⟨⟨a,b⟩,[c0],[c1],rfl,h1,h2⟩
theorem opn147:Opn 147 tCell:=opn_cell Tryz.underlying147 (by kernel_rfl)
theorem opn81:Opn 81 tCell:=opn_cell Tryz.underlying81 (by kernel_rfl)
theorem opn54:Opn 54 (tSl tDim):=opn_slice Tryz.underlying54 (by kernel_rfl) opn153 (by decide) (by decide +kernel)
theorem opn55:Opn 55 (tSl tAttr):=opn_slice Tryz.underlying55 (by kernel_rfl) opn156 (by decide) (by decide +kernel)
theorem opn56:Opn 56 (tSl tCell):=opn_slice Tryz.underlying56 (by kernel_rfl) opn147 (by decide) (by decide +kernel)
theorem opn30:Opn 30 (tSl tCell):=opn_slice Tryz.underlying30 (by kernel_rfl) opn81 (by decide) (by decide +kernel)
theorem opn58:Opn 58 tArr:=by
  refine ⟨by kernel_rfl,fun {H enc w n cs x} hx hw=>?_⟩
  have hl:=trod_structLen Tryz.underlying58 hx
  have hc:Tryz.prog.cellsOf 58=3:=by kernel_rfl
  rw [hc] at hl
  obtain ⟨a,ha⟩:=trod_field Tryz.underlying58 hx 0 rfl opn54 hw
  obtain ⟨b,hb⟩:=trod_field Tryz.underlying58 hx 1 rfl opn55 hw
  obtain ⟨c,hc⟩:=trod_field Tryz.underlying58 hx 2 rfl opn56 hw
  match cs,hl,ha,hb,hc with
  | [c0,c1,c2],_,h1,h2,h3=>exact ⟨⟨a,b,c⟩,[c0],[c1,c2],rfl,h1,[c1],[c2],rfl,h2,h3⟩
theorem opn60:Opn 60 tNm:=by
  refine ⟨by kernel_rfl,fun {H enc w n cs x} hx hw=>?_⟩
  have hl:=trod_structLen Tryz.underlying60 hx
  have hc:Tryz.prog.cellsOf 60=4:=by kernel_rfl
  rw [hc] at hl
  obtain ⟨a,ha⟩:=trod_field Tryz.underlying60 hx 0 rfl opn9 hw
  obtain ⟨b,hb⟩:=trod_field Tryz.underlying60 hx 1 rfl opn58 hw
  match cs,hl,ha,hb with
  | [c0,c1,c2,c3],_,h1,h2=>exact ⟨⟨a,b⟩,[c0],[c1,c2,c3],rfl,⟨h1.1,by have:=h1.2;have:maxSl=140737488355328:=rfl;dsimp only;omega⟩,h2⟩
theorem opn23:Opn 23 (tSl tNm):=opn_slice Tryz.underlying23 (by kernel_rfl) opn60 (by decide) (by decide +kernel)
end Go.Vc
namespace Go.Vc
open Go Go.Proofs
theorem opn32:Opn 32 tBt:=by
  refine ⟨by kernel_rfl,fun {H enc w n cs x} hx hw=>?_⟩
  have hl:=trod_structLen Tryz.underlying32 hx
  have hc:Tryz.prog.cellsOf 32=4:=by kernel_rfl
  rw [hc] at hl
  obtain ⟨a,ha⟩:=trod_field Tryz.underlying32 hx 0 rfl opn9 hw
  obtain ⟨b,hb⟩:=trod_field Tryz.underlying32 hx 1 rfl opn2 hw
  obtain ⟨c,hc⟩:=trod_field Tryz.underlying32 hx 2 rfl opn9 hw
  obtain ⟨d,hd⟩:=trod_field Tryz.underlying32 hx 3 rfl opn30 hw
  have hmx:maxSl=140737488355328:=rfl
  match cs,hl,ha,hb,hc,hd with
  | [c0,c1,c2,c3],_,⟨h1,h2⟩,⟨h3,h4⟩,⟨h5,h6⟩,h7 =>
    simp [tS',tI] at h1 h3 h5
    subst h1 h3 h5
    exact ⟨⟨a,b,c,d⟩,[_,_],[_,_],rfl,⟨[_],[_],rfl,⟨rfl,by dsimp only;omega⟩,⟨rfl,h4⟩⟩,⟨[_],[_],rfl,⟨rfl,by dsimp only;omega⟩,h7⟩⟩
theorem opn24:Opn 24 (tSl tBt):=opn_slice Tryz.underlying24 (by kernel_rfl) opn32 (by decide) (by decide +kernel)
end Go.Vc
namespace Go.Proofs.YtlmpniofhabmiaaGreat.ingestOrder
open Go.ChangeShapes Go.WideShapes Go.ChangeAt Go.RowKit
theorem own:ownKnob Tryz.prog.godebug=none:=by kernel_rfl
theorem laidOut:laidOutB Tryz.prog=true:=by kernel_rfl
theorem below {w w':World} (h:Go.Vc.KpL [] w w'):Below w.heap.size w w':=⟨h.os,h.tape,h.output,h.size,fun k hk=>h.blk k hk (by simp)⟩
set_option maxRecDepth 100000 in
theorem pair {H:Type} {enc:TypeId×Value→H} {W:World} {base:Nat} {v:Value} {d:DataW H} {ps:List MemPlace} (hval:Value.okWide Tryz.prog W .any base 26 v) (h:DataW.Trod enc Tryz.prog W 0 (fun _=>true) true 26 v d ps) :
    ∃a b:Int,v=.agg #[.int .u16 a,.int .u16 b]∧0≤b∧b≤65535:=by
  simp only [Value.okWide,Tryz.underlying26] at hval
  obtain ⟨cs,rfl,hcs,_⟩:=hval
  have h26:Tryz.prog.cellsOf 26=2:=by kernel_rfl
  have h25:Tryz.prog.cellsOf 25=1:=by kernel_rfl
  rw [h26] at hcs
  obtain ⟨n,hn⟩:=h
  obtain ⟨xs,m,_,_,_,hl,hall⟩:=DataW.trod_array Tryz.underlying26 hn
  have g0:=hall 0 (by omega)
  have g1:=hall 1 (by omega)
  rw [h25,List.getElem?_eq_getElem (by omega)] at g0 g1
  obtain ⟨l⟩:=cs
  match l,hcs with
  | [c0,c1],_ =>
    obtain ⟨a,e0,_,_⟩:=DataW.trod_int Tryz.underlying25 g0
    obtain ⟨b,e1,_,hw⟩:=DataW.trod_int Tryz.underlying25 g1
    simp [Value.cells] at e0 e1
    subst e0 e1
    simp only [Lit.wf,Bool.and_eq_true,decide_eq_true_eq] at hw
    have h1:IntKind.u16.min=0:=by decide
    have h2:IntKind.u16.max=65535:=by decide
    rw [h1,h2] at hw
    exact ⟨a,b,rfl,hw.1,hw.2⟩
set_option maxRecDepth 100000 in
theorem lifted (os:Os) (started:os.Started) (H:Type) (enc:TypeId×Value→H) :
    ReturnsInHanded {} Tryz.checked os 3 .any (Rows.ingestOrderSpec.pre6 enc Tryz.prog Tryz.f3 Rows.ingestOrderRow.domain false) (Rows.ingestOrderSpec.post enc Tryz.prog Tryz.f3 false true false false):=by
  refine returnsInHanded_of_change_sized (C:=Tryz.checked) own started (by kernel_rfl) Tryz.func3
    (ChangeSpec.witness6 (enc:=enc) (C:=Tryz.checked) false ⟨#[],#[.slice none 0 0,.slice none 0 0,.agg #[.int .u16 0,.int .u16 0]],[]⟩ 8 (by kernel_rfl) (by kernel_rfl) (by kernel_rfl) (by kernel_rfl)) ?_
  intro W base args ds gs before hval0 hW hcnd hsz _
  have hval : ∀(j:Nat) t v,Tryz.f3.params[j]?=some t→args[j]?=some v→Value.okWide Tryz.prog W .any base t v:=hval0
  have hW':=hW
  obtain ⟨p,q,hA0,hV,rfl,hfz,hnd⟩:=hW
  have hA:DataW.TrodAll enc Tryz.prog W 0 (fun _=>true) true Tryz.f3.params.toList args.toList ds p:=hA0
  rw [Tryz.params3] at hA hval hsz
  obtain ⟨v0,vs0,d0,ds0,p0,q0,hargs,rfl,rfl,h0,r0⟩:=trodAll_cons hA
  obtain ⟨v1,vs1,d1,ds1,p1,q1,rfl,rfl,rfl,h1,r1⟩:=trodAll_cons r0
  obtain ⟨v2,vs2,d2,ds2,p2,q2,rfl,rfl,rfl,h2,r2⟩:=trodAll_cons r1
  obtain ⟨rfl,rfl,rfl⟩:=trodAll_nil r2
  obtain rfl:args=#[v0,v1,v2]:=by cases args;simp_all
  obtain ⟨rfl,rfl⟩:=trodVars_none hV
  have wt : ∀(j:Nat) (t:TypeId) (d:DataW H),([23,24,26]:List TypeId)[j]?=some t→[d0,d1,d2][j]?=some d→∀m∈d.weights Tryz.prog t,m≤reachBytes:=fun j t d ht hd m hm=>by
    have:=List.all_eq_true.1 hsz m (DataW.weights_mem_each (j:=j) (by rw [List.getElem?_append_left (by have:=(List.getElem?_eq_some_iff.1 ht).1;simpa using this)];exact ht) (by rw [List.getElem?_append_left (by have:=(List.getElem?_eq_some_iff.1 hd).1;simpa using this)];exact hd) m hm)
    simpa using this
  obtain ⟨a0,n0,c0,rfl⟩:=okWide_slice Tryz.underlying23 (hval 0 23 v0 rfl rfl)
  obtain ⟨a1,n1,c1,rfl⟩:=okWide_slice Tryz.underlying24 (hval 1 24 v1 rfl rfl)
  obtain ⟨u0,u1,rfl,hu0,hu1⟩:=pair (hval 2 26 v2 rfl rfl) h2
  have lt : ∀{t:TypeId} {v:Value} {d:DataW H} {ps:List MemPlace},DataW.Trod enc Tryz.prog W 0 (fun _=>true) true t v d ps→∀x∈ps,x.block<W.heap.size:=fun ⟨m,hm⟩=>DataW.trod_lt m _ _ _ hm
  obtain ⟨db,hdb⟩:=Go.Vc.opn23.R h0 (wt 0 23 d0 rfl rfl)
  obtain ⟨l,hl⟩:=Go.Vc.opn24.R h1 (wt 1 24 d1 rfl rfl)
  clear hA0 hval0
  refine (Go.Vc.gOrder_ok (u0:=u0) hdb hl ⟨hu0,hu1⟩).mono fun e W' ⟨he,hk⟩=>?_
  subst he
  have bel:=below hk
  exact ⟨_,rfl,_,_,_,[],_,[],hW',trodAll_mk1 (shut_bool Tryz.underlying4 _),(trodAll_cons_mk (Below.trod laidOut (by kernel_rfl) (of_decide_eq_true (by kernel_rfl)) h0 bel (lt h0)) (trodAll_cons_mk (Below.trod laidOut (by kernel_rfl) (of_decide_eq_true (by kernel_rfl)) h1 bel (lt h1)) (trodAll_cons_mk (Below.trod laidOut (by kernel_rfl) (of_decide_eq_true (by kernel_rfl)) h2 bel (lt h2)) trodAll_mk0))),rfl,bel.frame _,fun h=>by cases h⟩
theorem over:Rows.ingestOrderRow.holds Tryz.pinned (OpenSpec.ofChange Rows.ingestOrderSpec) :=
  OpenClaim.holds_of_wide 3 Tryz.f3 rfl rfl rfl rfl rfl rfl rfl ⟨rfl,rfl,rfl,rfl,rfl⟩ rfl rfl rfl rfl rfl (by kernel_rfl) Tryz.func3 (by kernel_rfl)
    (of_decide_eq_true (by kernel_rfl)) (by unfold Func.isWrapper;rw [if_neg (of_decide_eq_false (by kernel_rfl))];exact ⟨rfl,rfl⟩)
    (fun os started H enc _=>lifted os started H enc)
theorem proved:Rows.IngestOrderSaid:=over
#print axioms proved
end Go.Proofs.YtlmpniofhabmiaaGreat.ingestOrder
