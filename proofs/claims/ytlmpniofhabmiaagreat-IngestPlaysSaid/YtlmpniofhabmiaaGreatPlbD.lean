/- A part of the proof of the theorem that this claim hands in: merged and shortened by small programs out of texts of my own. -/
import Derived.Test.YtlmpniofhabmiaaGreatPlbC
set_option linter.unusedVariables false
set_option linter.unusedSimpArgs false
set_option linter.unusedSectionVars false
namespace Go.Vc
open Go Go.Proofs
theorem Ee{n c:Int}(hn:0<=n)(hn2:n<72057594037927936)(hc:ar .u8 c):aX .or .u64 (IntKind.u64.wrap (n*((2 ^ 8:Nat):Int))) c=n*256+c:=by
 rw[bC]at hc
 obtain⟨x,rfl⟩:∃x:Nat,n=x:=⟨n.toNat,by omega⟩
 obtain⟨z,rfl⟩:∃x:Nat,c=x:=⟨c.toNat,by omega⟩
 have e1:(x:Int)*((2 ^ 8:Nat):Int)=((2 ^ 8*x:Nat):Int):=by omega
 rw[aE (aJ.2 (by omega)),e1]
 have h1:(BitVec.ofInt 64 ((2 ^ 8*x:Nat):Int) ||| BitVec.ofInt 64 (z:Int)).toNat=2 ^ 8*x ||| z:=by
  rw[BitVec.toNat_or,BitVec.toNat_ofInt,BitVec.toNat_ofInt]
  congr 1<;>omega
 show IntKind.u64.wrap (((BitVec.ofInt 64 ((2 ^ 8*x:Nat):Int) ||| BitVec.ofInt 64 (z:Int)).toNat:Nat):Int)=_
 rw[h1,<-Nat.two_pow_add_eq_or_of_lt (i:=8) (b:=z) (by omega),aE (aJ.2 (by omega))]
 omega
def eT(l:List Int):Int:=l.foldl (fun n c=>n*256+c) 0
theorem x8(l:List Int)(c:Int):eT (l++[c])=eT l*256+c:=by simp[eT]
theorem pj:∀(l:List Int) (acc:Int),eB l->0<=acc->0<=l.foldl (fun n c=>n*256+c) acc/\l.foldl (fun n c=>n*256+c) acc<(acc+1)*256 ^ l.length
 |[],acc,_,h=>⟨h,by simp;omega⟩
 |c::r,acc,hb,h=>by
  have hc:=bC.1 (hb c (by simp))
  have:=pj r (acc*256+c) (fun x hx=>hb x (by simp[hx])) (by omega)
  refine⟨this.1,Int.lt_of_lt_of_le this.2 ?_⟩
  rw[List.length_cons,Int.pow_succ,<-Int.mul_assoc,Int.mul_comm ((acc+1)*256 ^ r.length) 256,<-Int.mul_assoc]
  refine Int.mul_le_mul_of_nonneg_right (by omega) (Int.le_of_lt (Int.pow_pos (by omega)))
theorem tx{l:List Int}(h:eB l):0<=eT l/\eT l<256 ^ l.length:=by
 have:=pj l 0 h (by omega)
 simpa[eT]using this
def Dk.noted(k:Dk)(i:Nat)(cur:Int):Int :=
 if (aF k.now i).take 8=(aF k.now i).drop 56/\cur<eT ((aF k.now i).take 8)/\eT ((aF k.now i).take 8)%2=i then eT ((aF k.now i).take 8) else cur
def Dk.newest(k:Dk):Int:=k.noted 1 (k.noted 0 0)
theorem pC{M F:List Nat}{w:World}{d:Nat}{k:Dk}(h:bz M w d k F)(h2:2<=k.n):
 Calls Zz 63 #[pK d] w fun e w'=>KpL [] w w'/\if k.down=true then e=.returned (.tuple #[.pointer none,iv 17]) else
  ∃l,e=.returned (.tuple #[pK l,iv 0])/\aM w' l d k.newest 0/\w.heap.size<=l/\ar .u64 k.newest:=by
 obtain⟨s,hs1,hs2,hs3⟩:=h.ok.secs
 have hre:∀i:Int,0<=i->i<2->k.readE i=if k.down=true then 17 else 0:=fun i h0 h1=>by unfold Dk.readE Dk.secs;rw[if_neg (by omega)]
 refine yY fun l hl=>⟨fun vs w'=>∃(i:Nat) (num:Int),vs=[iv (i:Int),pK d,.int .u64 num,iv 0]/\i<=2/\KpL [] w w'/\w'.heap[l]?=some (.cells #[pK d,.int .u64 num,iv 0] 121 (0,0))/\ar .u64 num/\
  (num=if i=0 then 0 else if i=1 then k.noted 0 0 else k.newest)/\(0<i->k.down=false),
  fun vs _=>match vs with|.int _ i::_=>2 - i.toNat|_=>0,fun w1 hw1 hl1=>⟨0,0,rfl,by omega,hw1,hl1,aJ.2 (by omega),rfl,fun h=>by omega⟩,?_⟩
 rintro n1 a1 num n3 w2 hl2 ⟨i,num0,hv,hi,hk2,_,hin,hnum,hdn⟩
 simp only[List.cons.injEq,Value.pointer.injEq,Value.int.injEq,true_and,and_true]at hv
 obtain⟨rfl,rfl,rfl,rfl⟩:=hv
 have h2w:=h.kp0 hk2
 constructor
 ·intro hlt _
  refine⟨(kw h2w (N:=[]) (by simp) (i:Int)).mono ?_⟩
  rintro e w3 ⟨a,n,c,rfl,hk3,hR⟩
  have hki:=hre i (by omega) (by omega)
  rw[hki]at hR ⊢
  refine⟨_,_,_,_,rfl,hk3,fun hne _=>?_,fun hz=>?_⟩
  ·have hd:k.down=true:=by
    cases hd:k.down
    ·rw[hd]at hne;simp at hne
    ·rfl
   rw[if_pos hd,if_pos hd]
   exact⟨hk2.trans hk3,rfl⟩
  have hd:k.down=false:=by
   cases hd:k.down
   ·rfl
   ·rw[hd]at hz;simp at hz
  have hC:=hR (by rw[if_neg (by simp[hd])])
  rw[Int.toNat_natCast]at hC
  have hsl:(aF k.now i).length=64:=fv (by omega)
  have hn64:n=64:=by rw[hC.acc.len,hsl]
  subst hn64
  have hmx:az=140737488355328:=rfl
  have hRh:=hC.acc.done (by omega)
  have hR8:=hRh.sub 0 8 (by omega) (by omega)
  have hR56:=hRh.sub 56 64 (by omega) (by omega)
  have hcap:=hC.acc.cap
  rw[List.drop_zero,Nat.sub_zero]at hR8
  rw[List.take_of_length_le (by simp[hsl])]at hR56
  have hby8:eB ((aF k.now i).take 8):=hR8.ints
  have hl8:((aF k.now i).take 8).length=8:=by simp[hsl]
  refine⟨_,_,_,dq fE (l:=0) (h:=8) (.inr ⟨rfl,rfl⟩) (.inl rfl) (by omega) (by omega),fun vs w'=>∃j:Nat,vs=[.int .u64 (eT (((aF k.now i).take 8).take j)),iv (j:Int)]/\j<=8/\KpL [] w3 w',
   fun vs _=>match vs with|[_,.int _ j]=>8 - j.toNat|_=>0,fun _=>⟨0,rfl,by omega,KpL.refl _ _⟩,?_⟩
  rintro n5 n6 w4 ⟨j,hv,hj,hk4⟩
  simp only[List.cons.injEq,Value.int.injEq,true_and,and_true]at hv
  obtain⟨rfl,rfl⟩:=hv
  have hk34:=hk3.trans hk4
  constructor
  ·intro hlt2
   obtain⟨ad,cs,h1,hv1,hld,_,_⟩:=(hR8.kp0 hk4).sl_get (i:=j) (by omega)
   obtain⟨rfl,hin8⟩:=hv1.intD
   have hrng:=tx (l:=((aF k.now i).take 8).take j) (hby8.take j)
   have hp:(256:Int) ^ (((aF k.now i).take 8).take j).length<=256 ^ 7:=by
    have e1:∀n:Nat,(256:Int) ^ n=((256 ^ n:Nat):Int):=fun n=>(Int.natCast_pow 256 n).symm
    rw[e1,e1]
    exact Int.ofNat_le.2 (Nat.pow_le_pow_right (by omega) (by rw[List.length_take];omega))
   have h7:(256:Int) ^ 7=72057594037927936:=by decide
   have hin8':=bC.1 hin8
   refine⟨ad,h1,by omega,by omega,fun _=>⟨_,hld,aJ.2 (by omega),ae.2 (by omega),fun _=>⟨⟨j+1,?_,by omega,hk4⟩,?_⟩⟩⟩
   ·rw[Ee hrng.1 (by omega) hin8,<-List.take_append_getElem (l:=(aF k.now i).take 8) (i:=j) (by omega),x8]
    simp
   ·show 8 - ((j:Int)+1).toNat<8 - (j:Int).toNat
    omega
  ·intro hge2
   have hj8:j=8:=by omega
   subst hj8
   rw[List.take_of_length_le (Nat.le_of_eq hl8)]
   refine⟨_,_,_,dq fE (l:=0) (h:=8) (.inr ⟨rfl,rfl⟩) (.inl rfl) (by omega) (by omega),_,_,_,dq fE (l:=56) (h:=64) (.inl rfl) (.inr ⟨rfl,rfl⟩) (by omega) (by omega),fun w5 hk5 hl5=>?_⟩
   refine⟨(tc ((hR8.kp0 hk4).kp0 hk5) ((hR56.kp0 hk4).kp0 hk5)).mono ?_⟩
   rintro e w6 ⟨rfl,hk6⟩
   have hk06:KpL [] w w6:=((hk2.trans hk34).trans hk5).trans hk6
   have hl6:w6.heap[l]?=some (.cells #[pK d,.int .u64 num,iv 0] 121 (0,0)):=(hk6.blk l (ab hl5) (by simp)).trans hl5
   have hrng8:=tx hby8
   have h8:(256:Int) ^ ((aF k.now i).take 8).length=18446744073709551616:=by rw[hl8];decide
   generalize hB:eT ((aF k.now i).take 8)=B at *
   have hinB:ar .u64 B:=aJ.2 (by omega)
   have hstep:∀c:Int,c=num->(if i+1=0 then 0 else if i+1=1 then k.noted 0 0 else k.newest)=k.noted i c:=by
    rintro c rfl
    rcases (show i=0∨i=1 by omega) with rfl|rfl
    ·rw[hnum];rfl
    ·rw[hnum];rfl
   have hun:∀c:Int,k.noted i c=if (aF k.now i).take 8=(aF k.now i).drop 56/\c<B/\B%2=i then B else c:=fun c=>by unfold Dk.noted;rw[hB]
   have emod:IntKind.i64.wrap (Int.tmod B 2)=B%2:=by
    rw[Int.tmod_eq_emod_of_nonneg hrng8.1]
    exact aE (ae.2 (by omega))
   have stay:k.noted i num=num->ar .i64 ((i:Int)+1)/\(w6.heap[l]?=some (.cells #[pK d,.int .u64 num,iv 0] 121 (0,0))->
    (∃(i':Nat) (num':Int),[Value.int .i64 ((i:Int)+1),pK d,.int .u64 num,iv 0]=[iv (i':Int),pK d,.int .u64 num',iv 0]/\i'<=2/\KpL [] w w6/\w6.heap[l]?=some (.cells #[pK d,.int .u64 num',iv 0] 121 (0,0))/\ar .u64 num'/\
    (num'=if i'=0 then 0 else if i'=1 then k.noted 0 0 else k.newest)/\(0<i'->k.down=false))/\2 - ((i:Int)+1).toNat<2 - (i:Int).toNat):=fun hst =>
    ⟨ae.2 (by omega),fun hl6'=>⟨⟨i+1,num,by simp,by omega,hk06,hl6',hin,by rw[hstep num rfl,hst],fun _=>hd⟩,by omega⟩⟩
   refine⟨_,rfl,hk6,fun heq=>⟨fun hgt=>⟨by omega,fun hmod=>?_,fun hmod=>?_⟩,fun hgt=>?_⟩,fun hne=>?_⟩
   ·rw[emod]at hmod
    refine⟨ae.2 (by omega),fun w7 hk7 hl7=>⟨⟨i+1,B,by simp,by omega,hk06.more hk7 (by intro x hx;simp at hx;exact .inr (by omega)),hl7,hinB,?_,fun _=>hd⟩,?_⟩⟩
    ·rw[hstep num rfl,hun,if_pos ⟨by simpa using heq,hgt,hmod⟩]
    ·show 2 - ((i:Int)+1).toNat<2 - (i:Int).toNat
     omega
   ·rw[emod]at hmod
    exact stay (by rw[hun,if_neg (fun hc=>hmod hc.2.2)])
   ·exact stay (by rw[hun,if_neg (fun hc=>hgt hc.2.1)])
   ·exact stay (by rw[hun,if_neg (fun hc=>by simp[hc.1]at hne)])
 ·intro hge hl2'
  have hi2:i=2:=by omega
  subst hi2
  have hd:=hdn (by omega)
  refine⟨hk2,?_⟩
  rw[if_neg (by simp[hd])]
  have hnum':num=k.newest:=hnum
  rw[<-hnum']
  exact⟨l,rfl,hl2',hl,hin⟩
end Go.Vc
namespace Go.Vc
open Go Go.Proofs
open Go.Value Go.Ending Go.IntKind
set_option maxRecDepth 100000
section
variable{w:World}{R:Ending->World->Prop}
theorem AF{s:Nat}
 (h :
 ∃a1,ao w ((Addr.mk s 0 none).add 0) [pointer a1]/\(a1=none->R (returned (iv 1)) w)/\(¬a1=none->∃a2,ao w ((Addr.mk s 0 none).add 0) [pointer a2]/\∃d1,a2=some d1/\∃a3,ao w (d1.add 0) [pointer a3]/\∃d2,a3=some d2/\∃b1,ao w (d2.add 5) [bv b1]/\(b1=false->∃n1,ao w ((Addr.mk s 0 none).add 1) [iv n1]/\∃a4,ao w ((Addr.mk s 0 none).add 0) [pointer a4]/\∃d3,a4=some d3/\∃a5,ao w (d3.add 0) [pointer a5]/\∃d4,a5=some d4/\∃n2,ao w (d4.add 8) [iv n2]/\(n1≠n2->∀w1,KpL [] w w1->R (returned (iv 17)) w1)/\(¬n1≠n2->∀w2,KpL [] w w2->R (returned (iv 0)) w2))/\(b1=true->∀w3,KpL [] w w3->R (returned (iv 17)) w3))):Calls Zz 45 #[pK s] w R :=
 fz {} [av (pK s)] Tryz.func45 h
theorem C9{s:Nat}{x:Int}
 (h :
 (x≠0->(∃l1,ao w ((Addr.mk s 0 none).add 1) l1/\l1.length=1)/\aq w ((Addr.mk s 0 none).add 1) 1/\∀w1,w1=bL w ((Addr.mk s 0 none).add 1) [iv (-1)] 0->R (returned (iv x)) w1)/\(¬x≠0->R (returned (iv x)) w)):Calls Zz 51 #[pK s,iv x] w R :=
 fz {} [av (pK s),av (iv x)] Tryz.func51 h
theorem zg{s:Nat}
 (h :
 ∃a1,ao w ((Addr.mk s 0 none).add 0) [pointer a1]/\∃d1,a1=some d1/\∃a2,ao w (d1.add 0) [pointer a2]/\∃d2,a2=some d2/\∃n1,ao w (d2.add 8) [iv n1]/\ar i64 (n1+1)/\∃d3,a2=some d3/\(∃l1,ao w (d3.add 8) l1/\l1.length=1)/\aq w (d3.add 8) 1/\∀w1,w1=bL w (d3.add 8) [iv (n1+1)] 0->∃a3,ao w1 ((Addr.mk s 0 none).add 0) [pointer a3]/\∃d4,a3=some d4/\∃a4,ao w1 (d4.add 0) [pointer a4]/\∃d5,a4=some d5/\∃n2,ao w1 (d5.add 8) [iv n2]/\(∃l2,ao w1 ((Addr.mk s 0 none).add 1) l2/\l2.length=1)/\aq w1 ((Addr.mk s 0 none).add 1) 1/\∀w2,w2=bL w1 ((Addr.mk s 0 none).add 1) [iv n2] 0->R (returned (pK s)) w2):Calls Zz 67 #[pK s] w R :=
 fz {} [av (pK s)] Tryz.func67 h
theorem qL{s l:Nat}{id:Int}{ra:Option Addr}{rn rc:Nat}{mo:Option Nat}{qa:Option Addr}{qn qc:Nat}{us:Int}
 (hk:Hb w s #[pK l,iv id,slice ra rn rc,map mo,slice qa qn qc,iv us] 116)
 (h :
 ar i64 ((8:Int)*(↑rn:Int))/\ar i64 ((1:Int)+(8:Int)*(↑rn:Int))/\∀w1,KpL [] w w1->Ev Zz (Builtin.len_ #[114] 3 #[map mo]) w1 fun y1 w2 =>
 ∃n1,y1=iv n1/\∃l1,KpL l1 w1 w2/\af s l1/\(ao w2 (Addr.mk s (0+4) none) [slice qa qn qc]/\ao w2 (Addr.mk s (0+2) none) [slice ra rn rc]/\True)/\ar i64 (3*n1)/\ar i64 ((1:Int)+(8:Int)*(↑rn:Int)+(3:Int)*n1)/\ar i64 ((1:Int)+(8:Int)*(↑rn:Int)+(3:Int)*n1+(↑qn:Int))/\R (returned (iv ((1:Int)+(8:Int)*(↑rn:Int)+(3:Int)*n1+(↑qn:Int)))) w2):Calls Zz 61 #[pK s] w R :=
 dD (an:={}) (args:=[.a (.c (.loc 0 0))]) (rho:=[s]) (hp:=[(0,116,[.v (pK l),.v (iv id),.v (.slice ra rn rc),.v (.map mo),.v (.slice qa qn qc),.v (iv us)])]) aS Tryz.func61 (by kernel_rfl) rfl rfl hk (by simp) (by simpa using ab hk) rfl (by simp) h
theorem yZ{tok:ByteArray}{stp:Int}{arn:ByteArray}{ca:Option Addr}{cn cc:Nat}
 (h :
 ∀k1,w.heap.size<=k1->ar i64 ((3:Int)*(↑cn:Int))/\ar i64 ((2:Int)+(3:Int)*(↑cn:Int))/\∀w1,KpL [] w w1->R (returned (iv ((2:Int)+(3:Int)*(↑cn:Int)))) w1):Calls Zz 49 #[agg #[string tok,iv stp,string arn,slice ca cn cc]] w R :=
 fz {} [.a (.agg [.v (.string tok),.v (iv stp),.v (.string arn),.v (.slice ca cn cc)])] Tryz.func49 h
theorem BU{s l:Nat}{id:Int}{ra:Option Addr}{rn rc:Nat}{mo:Option Nat}{qa:Option Addr}{qn qc:Nat}{us:Int}{x y:Int}
 (hk:Hb w s #[pK l,iv id,slice ra rn rc,map mo,slice qa qn qc,iv us] 116)
 (h :
 (y=0->R (returned (bv true)) w)/\(¬y=0->ar i64 (x - 1)/\Ad qa (x - 1) qn fun d1=>∃s1 n1,ao w (d1.add ((x - 1).toNat*2)) [string s1,iv n1]/\ar i64 (y - 1)/\Ad qa (y - 1) qn fun d2=>∃s2 n2,ao w (d2.add ((y - 1).toNat*2)) [string s2,iv n2]/\(∀k1,w.heap.size<=k1->∀k2,w.heap.size<=k2->∀w1,KpL [] w w1->(ao w1 (d2.add ((y - 1).toNat*2)) [string s2,iv n2]/\ao w1 (Addr.mk s (0+4) none) [slice qa qn qc]/\True)/\(¬n2<n1->(n1=n2->∀w2,KpL [k2] w1 w2->R (returned (bv !(Op.bytesLess s1.toList s2.toList || s1.toList == s2.toList))) w2)/\(¬n1=n2->∀w3,KpL [k2] w1 w3->R (returned (bv false)) w3))/\(n2<n1->∀w4,KpL [k2] w1 w4->R (returned (bv true)) w4))/\∀k3,w.heap.size<=k3->∀k4,w.heap.size<=k4->∀w5,KpL [] w w5->(ao w5 (d2.add ((y - 1).toNat*2)) [string s2,iv n2]/\ao w5 (Addr.mk s (0+4) none) [slice qa qn qc]/\True)/\(¬n2<n1->(n1=n2->∀w6,KpL [k3] w5 w6->R (returned (bv !(Op.bytesLess s1.toList s2.toList || s1.toList == s2.toList))) w6)/\(¬n1=n2->∀w7,KpL [k3] w5 w7->R (returned (bv false)) w7))/\(n2<n1->∀w8,KpL [k3] w5 w8->R (returned (bv true)) w8))):Calls Zz 115 #[pK s,iv x,iv y] w R :=
 dD (an:={}) (args:=[.a (.c (.loc 0 0)),av (iv x),av (iv y)]) (rho:=[s]) (hp:=[(0,116,[.v (pK l),.v (iv id),.v (.slice ra rn rc),.v (.map mo),.v (.slice qa qn qc),.v (iv us)])]) aS Tryz.func115 (by kernel_rfl) rfl rfl hk (by simp) (by simpa using ab hk) rfl (by simp) h
theorem CW{s l:Nat}{id:Int}{ra:Option Addr}{rn rc:Nat}{mo:Option Nat}{qa:Option Addr}{qn qc:Nat}{us:Int}{nm:ByteArray}
 (hk:Hb w s #[pK l,iv id,slice ra rn rc,map mo,slice qa qn qc,iv us] 116)
 (h :
 ∀k1,w.heap.size<=k1->∀w1,KpL [] w w1->Hb w1 k1 #[string nm] 9/\Hb w1 s #[pK l,iv id,slice ra rn rc,map mo,slice qa qn qc,iv us] 116->ag Zz 151 (#[slice ra rn rc,func (Fn.func 152) #[] #[pK k1]]) w1 fun e1 w2 =>
 ∃n1,e1=returned (iv n1)/\KpL [] w1 w2/\(Hb w2 k1 #[string nm] 9/\Hb w2 s #[pK l,iv id,slice ra rn rc,map mo,slice qa qn qc,iv us] 116->R (returned (iv n1)) w2)):Calls Zz 103 #[pK s,string nm] w R :=
 dD (an:={ all:=true }) (args:=[.a (.c (.loc 0 0)),av (.string nm)]) (rho:=[s]) (hp:=[(0,116,[.v (pK l),.v (iv id),.v (.slice ra rn rc),.v (.map mo),.v (.slice qa qn qc),.v (iv us)])]) aS Tryz.func103 (by kernel_rfl) rfl rfl hk (by simp) (by simpa using ab hk) rfl (by simp) h
theorem Ae{k:Nat}{kn:ByteArray}{nm:ByteArray}{xa:Option Addr}{xn xc:Nat}{ya:Option Addr}{yn yc:Nat}{za:Option Addr}{zn zc:Nat}
 (hk:Hb w k #[string kn] 9)
 (h :
 ∀k1,w.heap.size<=k1->∀w1,KpL [] w w1->Hb w1 k1 #[string nm,slice xa xn xc,slice ya yn yc,slice za zn zc] 60/\Hb w1 k #[string kn] 9->R (returned (bv (decide (nm=kn)))) w1):Calls Zz 152 #[agg #[string nm,slice xa xn xc,slice ya yn yc,slice za zn zc],pK k] w R :=
 dD (an:={ all:=true }) (args:=[.a (.agg [.v (.string nm),.v (.slice xa xn xc),.v (.slice ya yn yc),.v (.slice za zn zc)]),.a (.c (.loc 0 0))]) (rho:=[k]) (hp:=[(0,9,[.v (.string kn)])]) aS Tryz.func152 (by kernel_rfl) rfl rfl hk (by simp) (by simpa using ab hk) rfl (by simp) h
theorem tj{aa:Option Addr}{an ac:Nat}{f:Nat}{fi ca:Array Value}
 (h :
 ∃(P1:LP)(P2:LM),P1 [iv 0] w/\∀n1 w1,P1 [iv n1] w1->(n1<(↑an:Int)->Ad aa n1 an fun d1=>∃s1 a1 k1 k2 a2 k3 k4 a3 k5 k6,ao w1 (d1.add (n1.toNat*4)) [string s1,slice a1 k1 k2,slice a2 k3 k4,slice a3 k5 k6]/\cR Zz f/\ag Zz f ((fi.toList++[agg #[string s1,slice a1 k1 k2,slice a2 k3 k4,slice a3 k5 k6]]++ca.toList).toArray) w1 fun e1 w2 =>
 ∃b1,e1=returned (bv b1)/\∃l1,KpL l1 w1 w2/\(b1=true->R (returned (iv n1)) w2)/\(b1=false->ar i64 (n1+1)/\P1 [iv (n1+1)] w2/\P2 [iv (n1+1)] w2<P2 [iv n1] w1))/\(¬n1<(↑an:Int)->R (returned (iv (-1))) w1)):Calls Zz 151 #[slice aa an ac,func (Fn.func f) fi ca] w R :=
 fz { loops:=[⟨2,[8],[4,5]++rg 9 10,[]⟩] } [av (.slice aa an ac),av (.func (.func f) fi ca)] Tryz.func151 h
theorem Cd{k:Nat}{tk:ByteArray}{sp:Int}{tok:ByteArray}{stp:Int}{arn:ByteArray}{ca:Option Addr}{cn cc:Nat}
 (hk:Hb w k #[string tok,iv stp,string arn,slice ca cn cc] 48)
 (h :
 ∀k1,w.heap.size<=k1->∀w1,KpL [] w w1->Hb w1 k1 #[string tk,iv sp] 112/\Hb w1 k #[string tok,iv stp,string arn,slice ca cn cc] 48->R (returned (bv (decide (tk=tok)))) w1):Calls Zz 48 #[agg #[string tk,iv sp],pK k] w R :=
 dD (an:={ all:=true }) (args:=[.a (.agg [.v (.string tk),.v (iv sp)]),.a (.c (.loc 0 0))]) (rho:=[k]) (hp:=[(0,48,[.v (.string tok),.v (iv stp),.v (.string arn),.v (.slice ca cn cc)])]) aS Tryz.func48 (by kernel_rfl) rfl rfl hk (by simp) (by simpa using ab hk) rfl (by simp) h
theorem tv{aa:Option Addr}{an ac:Nat}{f:Nat}{fi ca:Array Value}
 (h :
 ∃(P1:LP)(P2:LM),P1 [iv 0] w/\∀n1 w1,P1 [iv n1] w1->(n1<(↑an:Int)->Ad aa n1 an fun d1=>∃s1 n2,ao w1 (d1.add (n1.toNat*2)) [string s1,iv n2]/\cR Zz f/\ag Zz f ((fi.toList++[agg #[string s1,iv n2]]++ca.toList).toArray) w1 fun e1 w2 =>
 ∃b1,e1=returned (bv b1)/\∃l1,KpL l1 w1 w2/\(b1=true->R (returned (iv n1)) w2)/\(b1=false->ar i64 (n1+1)/\P1 [iv (n1+1)] w2/\P2 [iv (n1+1)] w2<P2 [iv n1] w1))/\(¬n1<(↑an:Int)->R (returned (iv (-1))) w1)):Calls Zz 107 #[slice aa an ac,func (Fn.func f) fi ca] w R :=
 fz { loops:=[⟨2,[8],[4,5]++rg 9 10,[]⟩] } [av (.slice aa an ac),av (.func (.func f) fi ca)] Tryz.func107 h
theorem oK{aa:Option Addr}{an ac:Nat}{f:Nat}{fi ca:Array Value}
 (h :
 ag Zz 107 #[slice aa an ac,func (Fn.func f) fi ca] w fun e1 w1 =>
 ∃n1,e1=returned (iv n1)/\KpL [] w w1/\R (returned (bv (decide (0<=n1)))) w1):Calls Zz 47 #[slice aa an ac,func (Fn.func f) fi ca] w R :=
 fz {} [av (.slice aa an ac),av (.func (.func f) fi ca)] Tryz.func47 h
theorem CU{s:Nat}
 (h :
 ag Zz 45 #[pK s] w fun e1 w1 =>
 ∃n1,e1=returned (iv n1)/\KpL [] w w1/\(n1≠0->R (returned (tuple #[iv 0,iv n1])) w1)/\(¬n1≠0->∃a1,ao w1 ((Addr.mk s 0 none).add 0) [pointer a1]/\∃d1,a1=some d1/\∃a2,ao w1 (d1.add 0) [pointer a2]/\∃n2,ao w1 ((Addr.mk s 0 none).add 5) [iv n2]/\∀w2,KpL [] w1 w2->ag Zz 50 #[pointer a2] w2 fun e2 w3 =>
 ∃n3,e2=returned (iv n3)/\KpL [] w2 w3/\ar i64 (n3 - n2)/\R (returned (tuple #[iv (n3 - n2),iv 0])) w3)):Calls Zz 29 #[pK s] w R :=
 fz {} [av (pK s)] Tryz.func29 h
theorem yb{s:Nat}
 (h :
 ag Zz 45 #[pK s] w fun e1 w1 =>
 ∃n1,e1=returned (iv n1)/\KpL [] w w1/\(n1≠0->R (returned (tuple #[slice none 0 0,iv n1])) w1)/\(¬n1≠0->∃a1 k1 k2,ao w1 ((Addr.mk s 0 none).add 4) [slice a1 k1 k2]/\∃(P1:LP)(P2:LM),P1 [slice none 0 0,iv 0] w1/\∀a2 k3 k4 n2 w2,P1 [slice a2 k3 k4,iv n2] w2->(n2<(↑k1:Int)->Ad a1 n2 k1 fun d1=>∃s1 n3,ao w2 (d1.add (n2.toNat*2)) [string s1,iv n3]/\∀k5,w2.heap.size<=k5->∀k6,w2.heap.size<=k6->∀w3,KpL [] w2 w3->Hb w3 k6 #[string s1] 9->Ev Zz (Builtin.append_ #[87,87] 87 #[slice a2 k3 k4,sK k6 1 1]) w3 fun y1 w4 =>
 ∃a3 k7 k8,y1=slice a3 k7 k8/\∃l1,KpL l1 w3 w4/\(af k6 l1/\af k5 l1)/\ar i64 (n2+1)/\P1 [slice a3 k7 k8,iv (n2+1)] w4/\P2 [slice a3 k7 k8,iv (n2+1)] w4<P2 [slice a2 k3 k4,iv n2] w2)/\(¬n2<(↑k1:Int)->R (returned (tuple #[slice a2 k3 k4,iv 0])) w2))):Calls Zz 30 #[pK s] w R :=
 fz { loops:=[⟨6,[5,18],[7]++rg 19 9,[]⟩] } [av (pK s)] Tryz.func30 h
theorem yi{s:Nat}{r:Nat}
 (h :
 ∃a1 k1 k2,ao w ((Addr.mk s 0 none).add 2) [slice a1 k1 k2]/\ar i64 ((↑k1:Int) - (1:Int))/\∀w1,KpL [] w w1->ag Zz 131 #[pK r] w1 fun e1 w2 =>
 ∃n1,e1=returned (int u64 n1)/\∃l1,KpL l1 w1 w2/\(ao w2 ((Addr.mk s 0 none).add 2) [slice a1 k1 k2]/\True)/\∃n2,Pv Zz (Builtin.min_ #[(119:Nat),(119:Nat)] (119:Nat) #[int u64 n1,int u64 (u64.wrap ((↑k1:Int) - (1:Int)))]) (int u64 n2)/\R (returned (iv (i64.wrap n2))) w2):Calls Zz 129 #[pK s,pK r] w R :=
 fz { muts:=[131] } [av (pK s),av (pK r)] Tryz.func129 h
theorem DA{s:Nat}{r:Nat}{x:Int}
 (h :
 ∃a1 k1 k2,ao w ((Addr.mk s 0 none).add 2) [slice a1 k1 k2]/\Ad a1 x k1 fun d1=>∃a2 k3 k4,ao w (((d1.add (x.toNat*4)).add 1).add 0) [slice a2 k3 k4]/\∃(P1:LP)(P2:LM),P1 [slice none 0 0,iv 0] w/\∀a3 k5 k6 n1 w1,P1 [slice a3 k5 k6,iv n1] w1->(n1<(↑k3:Int)->ag Zz 127 #[pK r] w1 fun e1 w2 =>
 ∃n2,e1=returned (iv n2)/\∃l1,KpL l1 w1 w2/\∀k7,w2.heap.size<=k7->∀w3,KpL [] w2 w3->Hb w3 k7 #[iv n2] 3->Ev Zz (Builtin.append_ #[78,78] 78 #[slice a3 k5 k6,sK k7 1 1]) w3 fun y1 w4 =>
 ∃a4 k8 k9,y1=slice a4 k8 k9/\∃l2,KpL l2 w3 w4/\af k7 l2/\ar i64 (n1+1)/\(Hb w4 k7 #[iv n2] 3->P1 [slice a4 k8 k9,iv (n1+1)] w4/\P2 [slice a4 k8 k9,iv (n1+1)] w4<P2 [slice a3 k5 k6,iv n1] w1))/\(¬n1<(↑k3:Int)->R (returned (slice a3 k5 k6)) w1)):Calls Zz 130 #[pK s,pK r,iv x] w R :=
 fz { loops:=[⟨3,[7,18],rg 19 7,[]⟩],muts:=[127],all:=true } [av (pK s),av (pK r),av (iv x)] Tryz.func130 h
theorem xi{s:Nat}{tok:ByteArray}{stp:Int}{arn:ByteArray}{ca:Option Addr}{cn cc:Nat}
 (h :
 ∀k1,w.heap.size<=k1->∀w1,KpL [] w w1->Hb w1 k1 #[string tok,iv stp,string arn,slice ca cn cc] 48->ag Zz 113 #[slice none 0 0,string tok] w1 fun e1 w2 =>
 ∃a1 k2 k3,e1=returned (slice a1 k2 k3)/\∃l1,KpL l1 w1 w2/\af k1 l1/\(Hb w2 k1 #[string tok,iv stp,string arn,slice ca cn cc] 48->(ao w2 (Addr.mk k1 (0+2) none) [string arn]/\ao w2 (Addr.mk k1 (0+1) none) [iv stp]/\True)/\(Hb w2 k1 #[string tok,iv stp,string arn,slice ca cn cc] 48->ag Zz 112 #[slice a1 k2 k3,iv stp] w2 fun e2 w3 =>
 ∃a2 k4 k5,e2=returned (slice a2 k4 k5)/\∃l2,KpL l2 w2 w3/\af k1 l2/\(Hb w3 k1 #[string tok,iv stp,string arn,slice ca cn cc] 48->(ao w3 (Addr.mk k1 (0+2) none) [string arn]/\True)/\(Hb w3 k1 #[string tok,iv stp,string arn,slice ca cn cc] 48->ag Zz 103 #[pK s,string arn] w3 fun e3 w4 =>
 ∃n1,e3=returned (iv n1)/\KpL [] w3 w4/\(Hb w4 k1 #[string tok,iv stp,string arn,slice ca cn cc] 48->ag Zz 111 #[slice a2 k4 k5,int u64 (u64.wrap n1)] w4 fun e4 w5 =>
 ∃a3 k6 k7,e4=returned (slice a3 k6 k7)/\∃l3,KpL l3 w4 w5/\af k1 l3/\(Hb w5 k1 #[string tok,iv stp,string arn,slice ca cn cc] 48->ag Zz 111 #[slice a3 k6 k7,int u64 (u64.wrap (↑cn:Int))] w5 fun e5 w6 =>
 ∃a4 k8 k9,e5=returned (slice a4 k8 k9)/\∃l4,KpL l4 w5 w6/\af k1 l4/\∃(P1:LP)(P2:LM),(Hb w6 k1 #[string tok,iv stp,string arn,slice ca cn cc] 48->P1 [slice a4 k8 k9,iv 0] w6)/\∀a5 k10 k11 n2 w7,P1 [slice a5 k10 k11,iv n2] w7->(n2<(↑cn:Int)->Ad ca n2 cn fun d1=>(Hb w7 k1 #[string tok,iv stp,string arn,slice ca cn cc] 48->∃a6 k12 k13 a7 k14 k15,ao w7 (d1.add (n2.toNat*2)) [slice a6 k12 k13,slice a7 k14 k15]/\∀k16,w7.heap.size<=k16->∃(P3:LP) (P4:LM),(∀w8,KpL [] w7 w8->Hb w8 k16 #[slice a6 k12 k13,slice a7 k14 k15] 81/\Hb w8 k1 #[string tok,iv stp,string arn,slice ca cn cc] 48->P3 [slice a5 k10 k11,iv 0] w8)/\∀a8 k17 k18 n3 w9,P3 [slice a8 k17 k18,iv n3] w9->(n3<(↑k12:Int)->Ad a6 n3 k12 fun d2=>(Hb w9 k16 #[slice a6 k12 k13,slice a7 k14 k15] 81/\Hb w9 k1 #[string tok,iv stp,string arn,slice ca cn cc] 48->∃n4,ao w9 (d2.add (n3.toNat*1)) [iv n4]/\(Hb w9 k16 #[slice a6 k12 k13,slice a7 k14 k15] 81/\Hb w9 k1 #[string tok,iv stp,string arn,slice ca cn cc] 48->ag Zz 112 #[slice a8 k17 k18,iv n4] w9 fun e6 w10 =>
 ∃a9 k19 k20,e6=returned (slice a9 k19 k20)/\∃l5,KpL l5 w9 w10/\(af k16 l5/\af k1 l5)/\ar i64 (n3+1)/\(Hb w10 k16 #[slice a6 k12 k13,slice a7 k14 k15] 81/\Hb w10 k1 #[string tok,iv stp,string arn,slice ca cn cc] 48->P3 [slice a9 k19 k20,iv (n3+1)] w10/\P4 [slice a9 k19 k20,iv (n3+1)] w10<P4 [slice a8 k17 k18,iv n3] w9))))/\(¬n3<(↑k12:Int)->Hb w9 k16 #[slice a6 k12 k13,slice a7 k14 k15] 81/\Hb w9 k1 #[string tok,iv stp,string arn,slice ca cn cc] 48->ag Zz 114 #[slice a8 k17 k18,slice a7 k14 k15] w9 fun e7 w11 =>
 ∃a10 k21 k22,e7=returned (slice a10 k21 k22)/\∃l6,KpL l6 w9 w11/\(af k16 l6/\af k1 l6)/\ar i64 (n2+1)/\(Hb w11 k16 #[slice a6 k12 k13,slice a7 k14 k15] 81/\Hb w11 k1 #[string tok,iv stp,string arn,slice ca cn cc] 48->P1 [slice a10 k21 k22,iv (n2+1)] w11/\P2 [slice a10 k21 k22,iv (n2+1)] w11<P2 [slice a5 k10 k11,iv n2] w7))))/\(¬n2<(↑cn:Int)->Hb w7 k1 #[string tok,iv stp,string arn,slice ca cn cc] 48->R (returned (slice a5 k10 k11)) w7)))))))):Calls Zz 53 #[pK s,agg #[string tok,iv stp,string arn,slice ca cn cc]] w R :=
 fz { loops:=[⟨7,[5,38],[9]++rg 39 7,[]⟩,⟨4,[5,31],[7,9]++rg 32 19,[]⟩],muts:=[111,112,113,114],all:=true } [av (pK s),.a (.agg [.v (.string tok),.v (iv stp),.v (.string arn),.v (.slice ca cn cc)])] Tryz.func53 h
theorem AS{s:Nat}
 (h :
 ∃a1 k1 k2,ao w ((Addr.mk s 0 none).add 2) [slice a1 k1 k2]/\ag Zz 111 #[slice none (0:Nat) (0:Nat),int u64 (u64.wrap (↑k1:Int))] w fun e1 w1 =>
 ∃a2 k3 k4,e1=returned (slice a2 k3 k4)/\∃l1,KpL l1 w w1/\∃a3 k5 k6,ao w1 ((Addr.mk s 0 none).add 2) [slice a3 k5 k6]/\∃(P1:LP)(P2:LM),P1 [slice a2 k3 k4,iv 0] w1/\∀a4 k7 k8 n1 w2,P1 [slice a4 k7 k8,iv n1] w2->(n1<(↑k5:Int)->Ad a3 n1 k5 fun d1=>∃s1 a5 k9 k10 a6 k11 k12 a7 k13 k14,ao w2 (d1.add (n1.toNat*4)) [string s1,slice a5 k9 k10,slice a6 k11 k12,slice a7 k13 k14]/\∀k15,w2.heap.size<=k15->∀w3,KpL [] w2 w3->Hb w3 k15 #[string s1,slice a5 k9 k10,slice a6 k11 k12,slice a7 k13 k14] 60->ag Zz 113 #[slice a4 k7 k8,string s1] w3 fun e2 w4 =>
 ∃a8 k16 k17,e2=returned (slice a8 k16 k17)/\∃l2,KpL l2 w3 w4/\af k15 l2/\(Hb w4 k15 #[string s1,slice a5 k9 k10,slice a6 k11 k12,slice a7 k13 k14] 60->(ao w4 (Addr.mk k15 (0+1+0) none) [slice a5 k9 k10]/\True)/\(Hb w4 k15 #[string s1,slice a5 k9 k10,slice a6 k11 k12,slice a7 k13 k14] 60->ag Zz 111 #[slice a8 k16 k17,int u64 (u64.wrap (↑k9:Int))] w4 fun e3 w5 =>
 ∃a9 k18 k19,e3=returned (slice a9 k18 k19)/\∃l3,KpL l3 w4 w5/\af k15 l3/\∃(P3:LP) (P4:LM),(Hb w5 k15 #[string s1,slice a5 k9 k10,slice a6 k11 k12,slice a7 k13 k14] 60->P3 [slice a9 k18 k19,iv 0] w5)/\∀a10 k20 k21 n2 w6,P3 [slice a10 k20 k21,iv n2] w6->(n2<(↑k9:Int)->Ad a5 n2 k9 fun d2=>(Hb w6 k15 #[string s1,slice a5 k9 k10,slice a6 k11 k12,slice a7 k13 k14] 60->∃s2 n3 n4,ao w6 (d2.add (n2.toNat*3)) [string s2,iv n3,iv n4]/\∀k22,w6.heap.size<=k22->∀w7,KpL [] w6 w7->Hb w7 k22 #[string s2,iv n3,iv n4] 153/\Hb w7 k15 #[string s1,slice a5 k9 k10,slice a6 k11 k12,slice a7 k13 k14] 60->ag Zz 113 #[slice a10 k20 k21,string s2] w7 fun e4 w8 =>
 ∃a11 k23 k24,e4=returned (slice a11 k23 k24)/\∃l4,KpL l4 w7 w8/\(af k22 l4/\af k15 l4)/\(Hb w8 k22 #[string s2,iv n3,iv n4] 153/\Hb w8 k15 #[string s1,slice a5 k9 k10,slice a6 k11 k12,slice a7 k13 k14] 60->(ao w8 (Addr.mk k22 (0+2) none) [iv n4]/\ao w8 (Addr.mk k22 (0+1) none) [iv n3]/\True)/\(Hb w8 k22 #[string s2,iv n3,iv n4] 153/\Hb w8 k15 #[string s1,slice a5 k9 k10,slice a6 k11 k12,slice a7 k13 k14] 60->ag Zz 112 #[slice a11 k23 k24,iv n3] w8 fun e5 w9 =>
 ∃a12 k25 k26,e5=returned (slice a12 k25 k26)/\∃l5,KpL l5 w8 w9/\(af k22 l5/\af k15 l5)/\(Hb w9 k22 #[string s2,iv n3,iv n4] 153/\Hb w9 k15 #[string s1,slice a5 k9 k10,slice a6 k11 k12,slice a7 k13 k14] 60->(ao w9 (Addr.mk k22 (0+2) none) [iv n4]/\True)/\(Hb w9 k22 #[string s2,iv n3,iv n4] 153/\Hb w9 k15 #[string s1,slice a5 k9 k10,slice a6 k11 k12,slice a7 k13 k14] 60->ag Zz 112 #[slice a12 k25 k26,iv n4] w9 fun e6 w10 =>
 ∃a13 k27 k28,e6=returned (slice a13 k27 k28)/\∃l6,KpL l6 w9 w10/\(af k22 l6/\af k15 l6)/\ar i64 (n2+1)/\(Hb w10 k22 #[string s2,iv n3,iv n4] 153/\Hb w10 k15 #[string s1,slice a5 k9 k10,slice a6 k11 k12,slice a7 k13 k14] 60->P3 [slice a13 k27 k28,iv (n2+1)] w10/\P4 [slice a13 k27 k28,iv (n2+1)] w10<P4 [slice a10 k20 k21,iv n2] w6)))))))/\(¬n2<(↑k9:Int)->Hb w6 k15 #[string s1,slice a5 k9 k10,slice a6 k11 k12,slice a7 k13 k14] 60->ag Zz 111 #[slice a10 k20 k21,int u64 (u64.wrap (↑k11:Int))] w6 fun e7 w11 =>
 ∃a14 k29 k30,e7=returned (slice a14 k29 k30)/\∃l7,KpL l7 w6 w11/\af k15 l7/\∃(P5:LP) (P6:LM),(Hb w11 k15 #[string s1,slice a5 k9 k10,slice a6 k11 k12,slice a7 k13 k14] 60->P5 [slice a14 k29 k30,iv 0] w11)/\∀a15 k31 k32 n5 w12,P5 [slice a15 k31 k32,iv n5] w12->(n5<(↑k11:Int)->Ad a6 n5 k11 fun d3=>(Hb w12 k15 #[string s1,slice a5 k9 k10,slice a6 k11 k12,slice a7 k13 k14] 60->∃s3 n6,ao w12 (d3.add (n5.toNat*2)) [string s3,iv n6]/\∀k33,w12.heap.size<=k33->(∀w13,KpL [] w12 w13->Hb w13 k33 #[string s3,iv n6] 156/\Hb w13 k15 #[string s1,slice a5 k9 k10,slice a6 k11 k12,slice a7 k13 k14] 60->ag Zz 113 #[slice a15 k31 k32,string s3] w13 fun e8 w14 =>
 ∃a16 k34 k35,e8=returned (slice a16 k34 k35)/\∃l8,KpL l8 w13 w14/\(af k33 l8/\af k15 l8)/\(Hb w14 k33 #[string s3,iv n6] 156/\Hb w14 k15 #[string s1,slice a5 k9 k10,slice a6 k11 k12,slice a7 k13 k14] 60->(ao w14 (Addr.mk k33 (0+1) none) [iv n6]/\True)/\∀k36,w14.heap.size<=k36->∀w15,KpL [] w14 w15->Hb w15 k36 #[int u8 (u8.wrap n6)] 5/\Hb w15 k33 #[string s3,iv n6] 156/\Hb w15 k15 #[string s1,slice a5 k9 k10,slice a6 k11 k12,slice a7 k13 k14] 60->Ev Zz (Builtin.append_ #[33,33] 33 #[slice a16 k34 k35,sK k36 1 1]) w15 fun y1 w16 =>
 ∃a17 k37 k38,y1=slice a17 k37 k38/\∃l9,KpL l9 w15 w16/\(af k36 l9/\af k33 l9/\af k15 l9)/\ar i64 (n5+1)/\(Hb w16 k36 #[int u8 (u8.wrap n6)] 5/\Hb w16 k33 #[string s3,iv n6] 156/\Hb w16 k15 #[string s1,slice a5 k9 k10,slice a6 k11 k12,slice a7 k13 k14] 60->P5 [slice a17 k37 k38,iv (n5+1)] w16/\P6 [slice a17 k37 k38,iv (n5+1)] w16<P6 [slice a15 k31 k32,iv n5] w12)))/\∀k39,w12.heap.size<=k39->∀w17,KpL [] w12 w17->Hb w17 k39 #[int u8 (u8.wrap n6)] 5/\Hb w17 k33 #[string s3,iv n6] 156/\Hb w17 k15 #[string s1,slice a5 k9 k10,slice a6 k11 k12,slice a7 k13 k14] 60->ag Zz 113 #[slice a15 k31 k32,string s3] w17 fun e9 w18 =>
 ∃a18 k40 k41,e9=returned (slice a18 k40 k41)/\∃l10,KpL l10 w17 w18/\(af k39 l10/\af k33 l10/\af k15 l10)/\(Hb w18 k39 #[int u8 (u8.wrap n6)] 5/\Hb w18 k33 #[string s3,iv n6] 156/\Hb w18 k15 #[string s1,slice a5 k9 k10,slice a6 k11 k12,slice a7 k13 k14] 60->Ev Zz (Builtin.append_ #[33,33] 33 #[slice a18 k40 k41,sK k39 1 1]) w18 fun y2 w19 =>
 ∃a19 k42 k43,y2=slice a19 k42 k43/\∃l11,KpL l11 w18 w19/\(af k39 l11/\af k33 l11/\af k15 l11)/\ar i64 (n5+1)/\(Hb w19 k39 #[int u8 (u8.wrap n6)] 5/\Hb w19 k33 #[string s3,iv n6] 156/\Hb w19 k15 #[string s1,slice a5 k9 k10,slice a6 k11 k12,slice a7 k13 k14] 60->P5 [slice a19 k42 k43,iv (n5+1)] w19/\P6 [slice a19 k42 k43,iv (n5+1)] w19<P6 [slice a15 k31 k32,iv n5] w12))))/\(¬n5<(↑k11:Int)->ar i64 (n1+1)/\(Hb w12 k15 #[string s1,slice a5 k9 k10,slice a6 k11 k12,slice a7 k13 k14] 60->P1 [slice a15 k31 k32,iv (n1+1)] w12/\P2 [slice a15 k31 k32,iv (n1+1)] w12<P2 [slice a4 k7 k8,iv n1] w2))))))/\(¬n1<(↑k5:Int)->∃a20 k44 k45,ao w2 ((Addr.mk s 0 none).add 4) [slice a20 k44 k45]/\ag Zz 111 #[slice a4 k7 k8,int u64 (u64.wrap (↑k44:Int))] w2 fun e10 w20 =>
 ∃a21 k46 k47,e10=returned (slice a21 k46 k47)/\∃l12,KpL l12 w2 w20/\∃a22 k48 k49,ao w20 ((Addr.mk s 0 none).add 4) [slice a22 k48 k49]/\∃(P7:LP) (P8:LM),P7 [slice a21 k46 k47,iv 0] w20/\∀a23 k50 k51 n7 w21,P7 [slice a23 k50 k51,iv n7] w21->(n7<(↑k48:Int)->Ad a22 n7 k48 fun d4=>∃s4 n8,ao w21 (d4.add (n7.toNat*2)) [string s4,iv n8]/\∀k52,w21.heap.size<=k52->∀w22,KpL [] w21 w22->Hb w22 k52 #[string s4,iv n8] 112->ag Zz 113 #[slice a23 k50 k51,string s4] w22 fun e11 w23 =>
 ∃a24 k53 k54,e11=returned (slice a24 k53 k54)/\∃l13,KpL l13 w22 w23/\af k52 l13/\(Hb w23 k52 #[string s4,iv n8] 112->(ao w23 (Addr.mk k52 (0+1) none) [iv n8]/\True)/\(Hb w23 k52 #[string s4,iv n8] 112->ag Zz 112 #[slice a24 k53 k54,iv n8] w23 fun e12 w24 =>
 ∃a25 k55 k56,e12=returned (slice a25 k55 k56)/\∃l14,KpL l14 w23 w24/\af k52 l14/\ar i64 (n7+1)/\(Hb w24 k52 #[string s4,iv n8] 112->P7 [slice a25 k55 k56,iv (n7+1)] w24/\P8 [slice a25 k55 k56,iv (n7+1)] w24<P8 [slice a23 k50 k51,iv n7] w21))))/\(¬n7<(↑k48:Int)->∃m1,ao w21 ((Addr.mk s 0 none).add 3) [map m1]/\Ev Zz (Instr.range 114 (map m1)) w21 fun y3 w25 =>
 ∃d5,y3=pointer (some d5)/\∃l15,KpL l15 w21 w25/\∃(P9:LP) (P10:LM),P9 [slice none 0 0] w25/\∀a26 k57 k58 w26,P9 [slice a26 k57 k58] w26->Ev Zz (Instr.next (pointer (some d5)) false 0) w26 fun y4 w27 =>
 (y4=tuple #[bv false]/\∃l16,KpL l16 w26 w27/\ag Zz 118 (#[slice a26 k57 k58,func (Fn.func 119) #[] #[]]) w27 fun e13 w28 =>
 e13=returned (tuple #[])/\∃l17,KpL l17 w27 w28/\ag Zz 111 #[slice a23 k50 k51,int u64 (u64.wrap (↑k57:Int))] w28 fun e14 w29 =>
 ∃a27 k59 k60,e14=returned (slice a27 k59 k60)/\∃l18,KpL l18 w28 w29/\∃(P11:LP) (P12:LM),P11 [slice a27 k59 k60,iv 0] w29/\∀a28 k61 k62 n9 w30,P11 [slice a28 k61 k62,iv n9] w30->(n9<(↑k57:Int)->Ad a26 n9 k57 fun d6=>∃n10 n11 n12 n13 n14,ao w30 (d6.add (n9.toNat*5)) [iv n10,iv n11,iv n12,iv n13,iv n14]/\∀k63,w30.heap.size<=k63->∀w31,KpL [] w30 w31->Hb w31 k63 #[iv n10,iv n11,iv n12,iv n13,iv n14] 143->ag Zz 111 #[slice a28 k61 k62,int u64 (u64.wrap n10)] w31 fun e15 w32 =>
 ∃a29 k64 k65,e15=returned (slice a29 k64 k65)/\∃l19,KpL l19 w31 w32/\af k63 l19/\∃a30 k66 k67,ao w32 ((Addr.mk s 0 none).add 2) [slice a30 k66 k67]/\Ad a30 n10 k66 fun d7=>∃a31 k68 k69,ao w32 (((d7.add (n10.toNat*4)).add 1).add 0) [slice a31 k68 k69]/\∃(P13:LP) (P14:LM),(∀w33,KpL [] w32 w33->Hb w33 k63 #[iv n10,iv n11,iv n12,iv n13,iv n14] 143->P13 [slice a29 k64 k65,iv 0] w33)/\∀a32 k70 k71 n15 w34,P13 [slice a32 k70 k71,iv n15] w34->(n15<(↑k68:Int)->0<=n15/\n15<(↑(4:Nat):Int)/\(Hb w34 k63 #[iv n10,iv n11,iv n12,iv n13,iv n14] 143->∃n16,ao w34 ((Addr.mk k63 (0+1) none).add (n15.toNat*1)) [iv n16]/\(Hb w34 k63 #[iv n10,iv n11,iv n12,iv n13,iv n14] 143->ag Zz 112 #[slice a32 k70 k71,iv n16] w34 fun e16 w35 =>
 ∃a33 k72 k73,e16=returned (slice a33 k72 k73)/\∃l20,KpL l20 w34 w35/\af k63 l20/\ar i64 (n15+1)/\(Hb w35 k63 #[iv n10,iv n11,iv n12,iv n13,iv n14] 143->P13 [slice a33 k72 k73,iv (n15+1)] w35/\P14 [slice a33 k72 k73,iv (n15+1)] w35<P14 [slice a32 k70 k71,iv n15] w34))))/\(¬n15<(↑k68:Int)->∃m2,ao w34 ((Addr.mk s 0 none).add 3) [map m2]/\∃m3,ao w34 ((Addr.mk s 0 none).add 3) [map m3]/\(∀w36,KpL [] w34 w36->Hb w36 k63 #[iv n10,iv n11,iv n12,iv n13,iv n14] 143->Ev Zz (Instr.lookup 114 (map m2) (agg #[iv n10,iv n11,iv n12,iv n13,iv n14]) false) w36 fun y5 w37 =>
 ∃n17 a34 k74 k75,y5=agg #[iv n17,slice a34 k74 k75]/\∃l21,KpL l21 w36 w37/\af k63 l21/\(Hb w37 k63 #[iv n10,iv n11,iv n12,iv n13,iv n14] 143->(ao w37 (Addr.mk k63 0 none) [iv n10,iv n11,iv n12,iv n13,iv n14]/\ao w37 ((Addr.mk s 0 none).add 3) [map m3]/\True)/\(Hb w37 k63 #[iv n10,iv n11,iv n12,iv n13,iv n14] 143->ag Zz 111 #[slice a32 k70 k71,int u64 (u64.wrap n17)] w37 fun e17 w38 =>
 ∃a35 k76 k77,e17=returned (slice a35 k76 k77)/\∃l22,KpL l22 w37 w38/\af k63 l22/\(Hb w38 k63 #[iv n10,iv n11,iv n12,iv n13,iv n14] 143->(ao w38 (Addr.mk k63 0 none) [iv n10,iv n11,iv n12,iv n13,iv n14]/\ao w38 ((Addr.mk s 0 none).add 3) [map m3]/\True)/\(Hb w38 k63 #[iv n10,iv n11,iv n12,iv n13,iv n14] 143->Ev Zz (Instr.lookup 114 (map m3) (agg #[iv n10,iv n11,iv n12,iv n13,iv n14]) false) w38 fun y6 w39 =>
 ∃n18 a36 k78 k79,y6=agg #[iv n18,slice a36 k78 k79]/\∃l23,KpL l23 w38 w39/\af k63 l23/\(Hb w39 k63 #[iv n10,iv n11,iv n12,iv n13,iv n14] 143->ag Zz 114 #[slice a35 k76 k77,slice a36 k78 k79] w39 fun e18 w40 =>
 ∃a37 k80 k81,e18=returned (slice a37 k80 k81)/\∃l24,KpL l24 w39 w40/\af k63 l24/\ar i64 (n9+1)/\(Hb w40 k63 #[iv n10,iv n11,iv n12,iv n13,iv n14] 143->P11 [slice a37 k80 k81,iv (n9+1)] w40/\P12 [slice a37 k80 k81,iv (n9+1)] w40<P12 [slice a28 k61 k62,iv n9] w30)))))/\(Hb w37 k63 #[iv n10,iv n11,iv n12,iv n13,iv n14] 143->Ev Zz (Instr.lookup 114 (map m3) (agg #[iv n10,iv n11,iv n12,iv n13,iv n14]) false) w37 fun y7 w41 =>
 ∃n19 a38 k82 k83,y7=agg #[iv n19,slice a38 k82 k83]/\∃l25,KpL l25 w37 w41/\af k63 l25/\(Hb w41 k63 #[iv n10,iv n11,iv n12,iv n13,iv n14] 143->ag Zz 111 #[slice a32 k70 k71,int u64 (u64.wrap n17)] w41 fun e19 w42 =>
 ∃a39 k84 k85,e19=returned (slice a39 k84 k85)/\∃l26,KpL l26 w41 w42/\af k63 l26/\(Hb w42 k63 #[iv n10,iv n11,iv n12,iv n13,iv n14] 143->ag Zz 114 #[slice a39 k84 k85,slice a38 k82 k83] w42 fun e20 w43 =>
 ∃a40 k86 k87,e20=returned (slice a40 k86 k87)/\∃l27,KpL l27 w42 w43/\af k63 l27/\ar i64 (n9+1)/\(Hb w43 k63 #[iv n10,iv n11,iv n12,iv n13,iv n14] 143->P11 [slice a40 k86 k87,iv (n9+1)] w43/\P12 [slice a40 k86 k87,iv (n9+1)] w43<P12 [slice a28 k61 k62,iv n9] w30))))))/\∀w44,KpL [] w34 w44->Hb w44 k63 #[iv n10,iv n11,iv n12,iv n13,iv n14] 143->Ev Zz (Instr.lookup 114 (map m3) (agg #[iv n10,iv n11,iv n12,iv n13,iv n14]) false) w44 fun y8 w45 =>
 ∃n20 a41 k88 k89,y8=agg #[iv n20,slice a41 k88 k89]/\∃l28,KpL l28 w44 w45/\af k63 l28/\(Hb w45 k63 #[iv n10,iv n11,iv n12,iv n13,iv n14] 143->(ao w45 (Addr.mk k63 0 none) [iv n10,iv n11,iv n12,iv n13,iv n14]/\ao w45 ((Addr.mk s 0 none).add 3) [map m2]/\True)/\(Hb w45 k63 #[iv n10,iv n11,iv n12,iv n13,iv n14] 143->Ev Zz (Instr.lookup 114 (map m2) (agg #[iv n10,iv n11,iv n12,iv n13,iv n14]) false) w45 fun y9 w46 =>
 ∃n21 a42 k90 k91,y9=agg #[iv n21,slice a42 k90 k91]/\∃l29,KpL l29 w45 w46/\af k63 l29/\(Hb w46 k63 #[iv n10,iv n11,iv n12,iv n13,iv n14] 143->ag Zz 111 #[slice a32 k70 k71,int u64 (u64.wrap n21)] w46 fun e21 w47 =>
 ∃a43 k92 k93,e21=returned (slice a43 k92 k93)/\∃l30,KpL l30 w46 w47/\af k63 l30/\(Hb w47 k63 #[iv n10,iv n11,iv n12,iv n13,iv n14] 143->ag Zz 114 #[slice a43 k92 k93,slice a41 k88 k89] w47 fun e22 w48 =>
 ∃a44 k94 k95,e22=returned (slice a44 k94 k95)/\∃l31,KpL l31 w47 w48/\af k63 l31/\ar i64 (n9+1)/\(Hb w48 k63 #[iv n10,iv n11,iv n12,iv n13,iv n14] 143->P11 [slice a44 k94 k95,iv (n9+1)] w48/\P12 [slice a44 k94 k95,iv (n9+1)] w48<P12 [slice a28 k61 k62,iv n9] w30)))))))/\(¬n9<(↑k57:Int)->R (returned (slice a28 k61 k62)) w30))∨
 (∃n22 n23 n24 n25 n26 n27 a45 k96 k97,y4=tuple #[bv true,agg #[iv n22,iv n23,iv n24,iv n25,iv n26],agg #[iv n27,slice a45 k96 k97]]/\∃l32,KpL l32 w26 w27/\Ev Zz (Instr.entry (pointer (some d5))) w27 fun y10 w49 =>
 ∃n28 n29 n30 n31 n32 n33 a46 k98 k99,y10=tuple #[agg #[iv n28,iv n29,iv n30,iv n31,iv n32],agg #[iv n33,slice a46 k98 k99]]/\∃l33,KpL l33 w27 w49/\∀k100,w49.heap.size<=k100->∀k101,w49.heap.size<=k101->∀w50,KpL [] w49 w50->Hb w50 k101 #[iv n28,iv n29,iv n30,iv n31,iv n32] 143/\Hb w50 k100 #[iv n28,iv n29,iv n30,iv n31,iv n32] 143->Ev Zz (Builtin.append_ #[205,205] 205 #[slice a26 k57 k58,sK k101 1 1]) w50 fun y11 w51 =>
 ∃a47 k102 k103,y11=slice a47 k102 k103/\∃l34,KpL l34 w50 w51/\(af k101 l34/\af k100 l34)/\(Hb w51 k101 #[iv n28,iv n29,iv n30,iv n31,iv n32] 143/\Hb w51 k100 #[iv n28,iv n29,iv n30,iv n31,iv n32] 143->P9 [slice a47 k102 k103] w51/\P10 [slice a47 k102 k103] w51<P10 [slice a26 k57 k58] w26))))):Calls Zz 59 #[pK s] w R :=
 fz { loops:=[⟨36,[3,155],[16]++rg 156 9,[]⟩,⟨32,[3,135],[15,16]++rg 136 48,[]⟩,⟨26,[12],[13]++rg 118 8,[]⟩,⟨20,[3,101],[11]++rg 102 11,[]⟩,⟨13,[3,73],[9]++rg 74 13,[]⟩,⟨7,[3,47],[7]++rg 48 14,[]⟩,⟨3,[3,29],[5,7,9]++rg 30 58,[]⟩],muts:=[111,112,113,114,118],all:=true,ent:=[143,145] } [av (pK s)] Tryz.func59 h
end
end Go.Vc
namespace Go.Vc
open Go Go.Proofs
structure dE where
 batch:Int
 vals:List Vl
deriving DecidableEq
def jz:Ty dE:=tM (fun s=>(s.batch,s.vals)) (tP (tI .i64) (au cv))
theorem R.sta{M:List Nat}{w:World}{x:dE}{cs:List Value}(h:R jz M w x cs):∃a n c,cs=[iv x.batch,.slice a n c]/\ar .i64 x.batch/\R (au cv) M w x.vals [.slice a n c]:=by
 obtain⟨c1,c2,rfl,⟨rfl,hi⟩,h2⟩:=h
 obtain⟨a,c,rfl⟩:=R.sl_form (M:=M) (w:=w) h2
 exact⟨_,_,_,rfl,hi,h2⟩
theorem R.mkSta{M:List Nat}{w:World}{x:dE}{a:Option Addr}{n c:Nat}(hi:ar .i64 x.batch)(h:R (au cv) M w x.vals [.slice a n c]):R jz M w x [iv x.batch,.slice a n c]:=⟨_,_,rfl,⟨rfl,hi⟩,h⟩
structure bH where
 token:ByteArray
 stamp:Int
deriving DecidableEq
def bH.ok(d:bH):Prop:=d.token.size<=az/\ar .i64 d.stamp
def ij:Ty bH:=nD 2 (fun v=>[.string v.token,iv v.stamp]) bH.ok (fun _ _=>rfl) (by
 intro x v hv
 simp only[List.mem_cons,List.not_mem_nil,or_false]at hv
 rcases hv with rfl|rfl<;>rfl)
theorem R.seen{M:List Nat}{w:World}{v:bH}{cs:List Value}(h:R ij M w v cs):cs=[.string v.token,iv v.stamp]/\v.ok:=h
theorem A7:oe Zz 110 110 112 2 24:=bM (by kernel_rfl)
theorem qH:Tryz.prog.underlying 114=some (.map 143 145):=Tryz.underlying114
structure bg where
 id:Int
 arrays:List Nm
 places:List (Pl×dE)
 batches:List bH
 use:Int
structure fy (M:List Nat) (w:World) (s l:Nat) (st:bg) (m:Nat) (ra:Option Addr) (rn rc:Nat) (qa:Option Addr) (qn qc:Nat):Prop where
 hs:w.heap[s]?=some (.cells #[pK l,iv st.id,.slice ra rn rc,.map (some m),.slice qa qn qc,iv st.use] 116 (0,0))
 arr:R (au gG) (s::l::m::(aj qa++M)) w st.arrays [.slice ra rn rc]
 pls:cZ Pl.enc jz (s::l::(aj qa++M)) w m st.places
 bat:bI ij (s::l::m::M) w st.batches qa qn qc
 sl:s≠l
 sM:s∉M
 lM:l∉M
 idI:ar .i64 st.id
 useI:ar .i64 st.use
 keys:∀p∈st.places,p.1.ok
def aK(M:List Nat)(w:World)(s l d:Nat)(num nxt:Int)(st:bg)(F:List Nat):Prop :=
 ∃m ra rn rc qa qn qc,fy M w s l st m ra rn rc qa qn qc/\aM w l d num nxt/\F=s::l::m::aj qa
section
variable {M:List Nat} {w:World} {s l:Nat} {st:bg} {m:Nat} {ra:Option Addr} {rn rc:Nat} {qa:Option Addr} {qn qc:Nat} (h:fy M w s l st m ra rn rc qa qn qc)
include h
theorem fy.mlt:∀b∈M,b<w.heap.size:=fun b hb=>h.bat.mlt b (by simp[hb])
theorem fy.own_lt{d:Nat}{num nxt:Int}(hl:aM w l d num nxt):∀b∈s::l::m::aj qa,b<w.heap.size/\b∉M:=by
 intro b hb
 have hm:=h.pls.mM
 simp only[List.mem_cons]at hb
 rcases hb with rfl|rfl|rfl|hb
 ·exact⟨ab h.hs,h.sM⟩
 ·exact⟨ab hl,h.lM⟩
 ·exact⟨h.pls.lt,fun hc=>hm (by simp[hc])⟩
 ·have:=h.bat.blk_lt b hb
  exact⟨this.1,fun hc=>this.2 (by simp[hc])⟩
theorem fy.step{M' N:List Nat}{w':World}(kp:KpL N w w')(hs:∀b∈N,b∈M)(hn:∀b∈M',(b∈M∨w.heap.size<=b)/\b<w'.heap.size)(hl:l<w.heap.size):fy M' w' s l st m ra rn rc qa qn qc:=by
 have ls:=ab h.hs
 have lm:=h.pls.lt
 have hsz:=kp.size
 have hout:∀x,x<w.heap.size->x∉M->x∉M':=fun x hx hxM hm=>(hn x hm).1.elim hxM (fun hge=>by omega)
 refine⟨(kp.blk s ls fun hm=>h.sM (hs s hm)).trans h.hs,h.arr.step kp (fun b hb=>by simp[hs b hb]) ?_,h.pls.step kp (fun b hb=>by simp[hs b hb]) ?_,h.bat.step kp (fun b hb=>by simp[hs b hb]) ?_,h.sl,hout s ls h.sM,hout l hl h.lM,h.idI,h.useI,h.keys⟩
 ·intro b hb
  simp only[List.mem_cons,List.mem_append]at hb ⊢
  rcases hb with hb|hb|hb|hb|hb
  ·simp[hb]
  ·simp[hb]
  ·simp[hb]
  ·simp[hb]
  ·exact(hn b hb).1.imp (fun h=>by simp[h]) id
 ·intro b hb
  simp only[List.mem_cons,List.mem_append]at hb ⊢
  rcases hb with hb|hb|hb|hb
  ·simp[hb]
  ·simp[hb]
  ·simp[hb]
  ·exact(hn b hb).1.imp (fun h=>by simp[h]) id
 ·intro b hb
  simp only[List.mem_cons]at hb ⊢
  rcases hb with rfl|rfl|rfl|hb
  ·exact⟨.inl (by simp),by omega⟩
  ·exact⟨.inl (by simp),by omega⟩
  ·exact⟨.inl (by simp),by omega⟩
  ·exact⟨(hn b hb).1.imp (fun h=>by simp[h]) id,(hn b hb).2⟩
end
section
variable {M F:List Nat} {w:World} {s l d:Nat} {num nxt:Int} {st:bg} (h:aK M w s l d num nxt st F)
include h
theorem aK.own_lt:∀b∈F,b<w.heap.size/\b∉M:=by
 obtain⟨m,ra,rn,rc,qa,qn,qc,h,hl,rfl⟩:=h
 exact h.own_lt hl
theorem aK.mlt:∀b∈M,b<w.heap.size:=by
 obtain⟨m,ra,rn,rc,qa,qn,qc,h,hl,rfl⟩:=h
 exact h.mlt
theorem aK.log:aM w l d num nxt:=by
 obtain⟨m,ra,rn,rc,qa,qn,qc,h,hl,rfl⟩:=h
 exact hl
theorem aK.lF:l∈F:=by
 obtain⟨m,ra,rn,rc,qa,qn,qc,h,hl,rfl⟩:=h
 simp
theorem aK.sF:s∈F:=by
 obtain⟨m,ra,rn,rc,qa,qn,qc,h,hl,rfl⟩:=h
 simp
theorem aK.step{M' N:List Nat}{w':World}(kp:KpL N w w')(hs:∀b∈N,b∈M)(hn:∀b∈M',(b∈M∨w.heap.size<=b)/\b<w'.heap.size):aK M' w' s l d num nxt st F:=by
 obtain⟨m,ra,rn,rc,qa,qn,qc,h,hl,rfl⟩:=h
 exact⟨m,ra,rn,rc,qa,qn,qc,h.step kp hs hn (ab hl),hl.keep kp fun hm=>h.lM (hs l hm),rfl⟩
theorem aK.kp0{w':World}(kp:KpL [] w w'):aK M w' s l d num nxt st F :=
 h.step kp (by simp) fun b hb=>⟨.inl hb,Nat.lt_of_lt_of_le (h.mlt b hb) kp.size⟩
theorem aK.weak{M':List Nat}(hs:∀b∈M',b∈M):aK M' w s l d num nxt st F :=
 h.step (KpL.refl [] w) (by simp) fun b hb=>⟨.inl (hs b hb),h.mlt b (hs b hb)⟩
end
def cw(st:bg)(k:Dk):Int:=if k.down=true∨st.id≠k.st then 17 else 0
theorem bz.cell{M F:List Nat}{w:World}{d:Nat}{k:Dk}(h:bz M w d k F):ao w ((⟨d,0,none⟩:Addr).add 5) [.bool k.down]/\ao w ((⟨d,0,none⟩:Addr).add 8) [iv k.st]:=by
 obtain⟨bd,bn,rd,rn,pe,pn,pc,pk,kn,kc,wr,sy,h,rfl⟩:=h
 rw[al,al]
 exact⟨ak h.hd 5 _ rfl,ak h.hd 8 _ rfl⟩
section
variable {M M' F Fd:List Nat} {w:World} {s l d:Nat} {num nxt:Int} {st:bg} {k:Dk}
theorem gH(h:aK M w s l d num nxt st F)(hd:bz M' w d k Fd):Calls Zz 45 #[pK s] w (aA (iv (cw st k)) w):=by
 obtain⟨m,ra,rn,rc,qa,qn,qc,h,hl,rfl⟩:=h
 have e0:ao w ((⟨s,0,none⟩:Addr).add 0) [pK l]:=by rw[al];exact ak h.hs 0 _ rfl
 have e1:ao w ((⟨s,0,none⟩:Addr).add 1) [iv st.id]:=by rw[al];exact ak h.hs 1 _ rfl
 have e2:ao w ((⟨l,0,none⟩:Addr).add 0) [pK d]:=by rw[al];exact ak hl 0 _ rfl
 refine AF ⟨_,e0,fun hc=>by simp at hc,fun _=>⟨_,e0,_,rfl,_,e2,_,rfl,_,hd.cell.1,fun hb=>⟨_,e1,_,e0,_,rfl,_,e2,_,rfl,_,hd.cell.2,fun hne w1 hk=>?_,fun he w1 hk=>?_⟩,fun hb w1 hk=>?_⟩⟩
 ·unfold cw;rw[if_pos (.inr hne)];exact⟨rfl,hk⟩
 ·unfold cw;rw[if_neg (by rw[hb];have:=Classical.not_not.1 he;simp[this])];exact⟨rfl,hk⟩
 ·unfold cw;rw[if_pos (.inl hb)];exact⟨rfl,hk⟩
theorem gZ(h:aK M w s l d num nxt st F)(ha:st.arrays.length<=1000000)(hp:st.places.length<=1000000)(hb:st.batches.length<=1000000):
 Calls Zz 61 #[pK s] w (aA (iv (1+8*st.arrays.length+3*st.places.length+st.batches.length)) w):=by
 obtain⟨m,ra,rn,rc,qa,qn,qc,h,hl,rfl⟩:=h
 obtain⟨rfl,_,_⟩:=h.arr.sl_len
 have hq:=h.bat.len
 subst hq
 refine qL h.hs ⟨ae.2 (by omega),ae.2 (by omega),fun w1 hk1=>?_⟩
 obtain⟨arr,clock,hm⟩:=h.pls.kp0 hk1
 have hs1:w1.heap[s]?=_:=(hk1.blk s (ab h.hs) (by simp)).trans h.hs
 refine⟨iv (st.places.length:Nat),w1,?_,_,rfl,[],KpL.refl _ _,⟨by simp⟩,⟨ak hs1 4 _ rfl,ak hs1 2 _ rfl,trivial⟩,ae.2 (by omega),ae.2 (by omega),ae.2 (by omega),rfl,hk1⟩
 simp only[Builtin.len_,List.getElem?_toArray,List.getElem?_cons_zero,Sem.run_bind,ai qH,Result.andThen_ok,getObj,Sem.run,hm.blk,Sem.run_pure,goInt,hm.len]
theorem px(w:World)(tok arn:ByteArray)(stp:Int)(ca:Option Addr)(cn cc:Nat)(hc:cn<=1000000):Calls Zz 49 #[.agg #[.string tok,iv stp,.string arn,.slice ca cn cc]] w (aA (iv (2+3*cn)) w) :=
 yZ fun _ _=>⟨ae.2 (by omega),ae.2 (by omega),fun w1 hk=>⟨rfl,hk⟩⟩
def AC(a b:ByteArray):Bool:=!(Op.bytesLess a.toList b.toList || a.toList == b.toList)
def bH.gt(x y:bH):Bool:=decide (y.stamp<x.stamp) || (decide (x.stamp=y.stamp)&&AC x.token y.token)
def eE(bs:List bH)(a b:Int):Bool:=decide (b=0) || (match bs[(a - 1).toNat]?,bs[(b - 1).toNat]? with
 |some x,some y=>x.gt y
 |_,_=>false)
theorem Aq(h:aK M w s l d num nxt st F)(hbl:st.batches.length<=1000000){a b:Int}(ha:1<=a/\a<=st.batches.length)(hb:0<=b/\b<=st.batches.length):
 Calls Zz 115 #[pK s,iv a,iv b] w (aA (.bool (eE st.batches a b)) w):=by
 obtain⟨m,ra,rn,rc,qa,qn,qc,h,hl,rfl⟩:=h
 have hq:=h.bat.len
 subst hq
 have hcap:=h.bat.cap
 have hmx:az=140737488355328:=rfl
 have hall:st.batches.length<=az:=by omega
 refine BU h.hs ⟨fun hz=>⟨by unfold eE;rw[decide_eq_true hz];rfl,KpL.refl _ _⟩,fun hz=>?_⟩
 have hR:=h.bat.done hall
 have ga:(a - 1).toNat<st.batches.length:=by omega
 have gb:(b - 1).toNat<st.batches.length:=by omega
 obtain⟨ad,cs,rfl,hv1,hld1,_,_⟩:=hR.sl_get ga
 obtain⟨rfl,hok1⟩:=hv1.seen
 obtain⟨ad2,cs2,had2,hv2,hld2,_,_⟩:=hR.sl_get gb
 simp only[Option.some.injEq]at had2
 subst had2
 obtain⟨rfl,hok2⟩:=hv2.seen
 have e0:eE st.batches a b=(st.batches[(a - 1).toNat]).gt (st.batches[(b - 1).toNat]):=by
  unfold eE
  rw[decide_eq_false hz,List.getElem?_eq_getElem ga,List.getElem?_eq_getElem gb]
  rfl
 generalize st.batches[(a - 1).toNat]=x at *
 generalize st.batches[(b - 1).toNat]=y at *
 have fin:∀{w1 w2:World} {kk:Nat} {r:Bool},KpL [] w w1->w.heap.size<=kk->KpL [kk] w1 w2->r=x.gt y->aA (.bool (eE st.batches a b)) w (.returned (.bool r)) w2:=by
  rintro w1 w2 kk r h1 h2 h3 rfl
  rw[e0]
  exact⟨rfl,h1.more h3 (by intro z hz;simp at hz;subst hz;exact .inr h2)⟩
 have ld4:∀{w1:World},KpL [] w w1->ao w1 ⟨s,0+4,none⟩ [.slice (some ad) st.batches.length qc]:=fun hk=>ak ((hk.blk s (ab h.hs) (by simp)).trans h.hs) 4 _ rfl
 refine⟨ae.2 (by omega),ad,rfl,by omega,by omega,_,_,hld1,ae.2 (by omega),ad,rfl,by omega,by omega,_,_,hld2,fun k1 hk1 k2 hk2 w1 hw1=>⟨⟨hld2.kp hw1,ld4 hw1,trivial⟩,fun hns=>⟨fun he w2 hw2=>fin hw1 hk2 hw2 ?_,fun hne w2 hw2=>fin hw1 hk2 hw2 ?_⟩,fun hlt w2 hw2=>fin hw1 hk2 hw2 ?_⟩,fun k1 hk1 k2 hk2 w1 hw1=>⟨⟨hld2.kp hw1,ld4 hw1,trivial⟩,fun hns=>⟨fun he w2 hw2=>fin hw1 hk1 hw2 ?_,fun hne w2 hw2=>fin hw1 hk1 hw2 ?_⟩,fun hlt w2 hw2=>fin hw1 hk1 hw2 ?_⟩⟩
 all_goals unfold bH.gt
 ·rw[decide_eq_false hns,decide_eq_true he];rfl
 ·rw[decide_eq_false hns,decide_eq_false hne];rfl
 ·rw[decide_eq_true hlt];rfl
 ·rw[decide_eq_false hns,decide_eq_true he];rfl
 ·rw[decide_eq_false hns,decide_eq_false hne];rfl
 ·rw[decide_eq_true hlt];rfl
end
end Go.Vc
namespace Go.Vc
open Go Go.Proofs
theorem sr{M:List Nat}{w:World}{xs:List Nm}{a:Option Addr}{n c:Nat}{f:FuncId}{fi ca:Array Value}{p:Nm->Bool}(hR:R (au gG) M w xs [.slice a n c])(hp:mN gG M w f fi ca p):
 Calls Zz 151 #[.slice a n c,.func (.func f) fi ca] w (aA (iv (idxOf p xs 0)) w):=by
 obtain⟨rfl,h1,h2⟩:=hR.sl_len
 have hmx:az=140737488355328:=rfl
 refine tj ⟨fun vs w'=>∃i,vs=[iv i]/\0<=i/\i<=xs.length/\KpL [] w w'/\idxOf p (xs.drop i.toNat) i=idxOf p xs 0,fun vs _=>match vs with|[.int _ i]=>xs.length - i.toNat|_=>0,
  ⟨0,rfl,by omega,by omega,KpL.refl _ _,rfl⟩,?_⟩
 rintro n1 w1 ⟨i,hv,hi0,hi1,hk,he⟩
 obtain rfl:=v1 hv
 constructor
 ·intro hlt
  have hi:n1.toNat<xs.length:=by omega
  obtain⟨ad,cs,rfl,hv1,hld,_,_⟩:=(hR.kp0 hk).sl_get hi
  have hv1':=hv1
  obtain⟨b1,p1,q1,b2,p2,q2,b3,p3,q3,rfl,hsz,hx1,hx2,hx3⟩:=hv1.nm
  rw[List.drop_eq_getElem_cons hi,idxOf]at he
  refine⟨ad,rfl,hi0,hlt,_,_,_,_,_,_,_,_,_,_,hld,hp.ok,⟨(hp.calls _ _ _ w1 hk hv1' rfl).mono ?_⟩⟩
  rintro e w2 ⟨rfl,hk2⟩
  refine⟨_,rfl,_,hk2,fun hb=>⟨?_,hk.trans hk2⟩,fun hb=>⟨ae.2 (by omega),⟨n1+1,rfl,by omega,by omega,hk.trans hk2,?_⟩,?_⟩⟩
  ·rw[hb,if_pos rfl]at he;rw[he]
  ·rw[hb,if_neg (by simp)]at he
   rw[show(n1+1).toNat=n1.toNat+1 from by omega];exact he
  ·show xs.length - (n1+1).toNat<xs.length - n1.toNat
   omega
 ·intro hge
  rw[List.drop_eq_nil_of_le (by omega)]at he
  refine⟨?_,hk⟩
  rw[<-he];rfl
theorem uP{M:List Nat}{w:World}{k:Nat}{kn:ByteArray}(hk:w.heap[k]?=some (.cells #[.string kn] 9 (0,0))):mN gG M w 152 #[] #[pK k] (fun x=>decide (x.name=kn)):=by
 refine⟨⟨_,_,Tryz.func152,rfl⟩,?_⟩
 rintro x cs v w' hk' hR rfl
 obtain⟨b1,p1,q1,b2,p2,q2,b3,p3,q3,rfl,hsz,hx1,hx2,hx3⟩:=hR.nm
 exact Ae ((hk'.blk k (ab hk) (by simp)).trans hk) fun _ _ w1 hk1 _=>⟨rfl,hk1⟩
def aI(arrays:List Nm)(nm:ByteArray):Int:=idxOf (fun x=>decide (x.name=nm)) arrays 0
theorem qG{M F:List Nat}{w:World}{s l d:Nat}{num nxt:Int}{st:bg}(h:aK M w s l d num nxt st F)(nm:ByteArray):
 Calls Zz 103 #[pK s,.string nm] w (aA (iv (aI st.arrays nm)) w):=by
 obtain⟨m,ra,rn,rc,qa,qn,qc,h,hl,rfl⟩:=h
 refine CW h.hs fun k1 hk1 w1 hw1 hkn=>⟨(sr (h.arr.kp0 hw1) (uP hkn.1)).mono ?_⟩
 rintro e w2 ⟨rfl,hk2⟩
 exact⟨_,rfl,hk2,fun _=>⟨rfl,hw1.trans hk2⟩⟩
theorem tb{M:List Nat}{w:World}{xs:List bH}{a:Option Addr}{n c:Nat}{f:FuncId}{fi ca:Array Value}{p:bH->Bool}(hR:R (au ij) M w xs [.slice a n c])(hp:mN ij M w f fi ca p):
 Calls Zz 107 #[.slice a n c,.func (.func f) fi ca] w (aA (iv (idxOf p xs 0)) w):=by
 obtain⟨rfl,h1,h2⟩:=hR.sl_len
 have hmx:az=140737488355328:=rfl
 refine tv ⟨fun vs w'=>∃i,vs=[iv i]/\0<=i/\i<=xs.length/\KpL [] w w'/\idxOf p (xs.drop i.toNat) i=idxOf p xs 0,fun vs _=>match vs with|[.int _ i]=>xs.length - i.toNat|_=>0,
  ⟨0,rfl,by omega,by omega,KpL.refl _ _,rfl⟩,?_⟩
 rintro n1 w1 ⟨i,hv,hi0,hi1,hk,he⟩
 obtain rfl:=v1 hv
 constructor
 ·intro hlt
  have hi:n1.toNat<xs.length:=by omega
  obtain⟨ad,cs,rfl,hv1,hld,_,_⟩:=(hR.kp0 hk).sl_get hi
  have hv1':=hv1
  obtain⟨rfl,hok⟩:=hv1.seen
  rw[List.drop_eq_getElem_cons hi,idxOf]at he
  refine⟨ad,rfl,hi0,hlt,_,_,hld,hp.ok,⟨(hp.calls _ _ _ w1 hk hv1' rfl).mono ?_⟩⟩
  rintro e w2 ⟨rfl,hk2⟩
  refine⟨_,rfl,_,hk2,fun hb=>⟨?_,hk.trans hk2⟩,fun hb=>⟨ae.2 (by omega),⟨n1+1,rfl,by omega,by omega,hk.trans hk2,?_⟩,?_⟩⟩
  ·rw[hb,if_pos rfl]at he;rw[he]
  ·rw[hb,if_neg (by simp)]at he
   rw[show(n1+1).toNat=n1.toNat+1 from by omega];exact he
  ·show xs.length - (n1+1).toNat<xs.length - n1.toNat
   omega
 ·intro hge
  rw[List.drop_eq_nil_of_le (by omega)]at he
  refine⟨?_,hk⟩
  rw[<-he];rfl
theorem oP{M:List Nat}{w:World}{xs:List bH}{a:Option Addr}{n c:Nat}{f:FuncId}{fi ca:Array Value}{p:bH->Bool}(hR:R (au ij) M w xs [.slice a n c])(hp:mN ij M w f fi ca p):
 Calls Zz 47 #[.slice a n c,.func (.func f) fi ca] w (aA (.bool (xs.any p)) w):=by
 refine oK ⟨(tb hR hp).mono ?_⟩
 rintro e w1 ⟨rfl,hk⟩
 exact⟨_,rfl,hk,by rw[ji p xs 0 (by omega)],hk⟩
theorem xF{M:List Nat}{w:World}{k:Nat}{tok arn:ByteArray}{stp:Int}{ca:Option Addr}{cn cc:Nat}(hk:w.heap[k]?=some (.cells #[.string tok,iv stp,.string arn,.slice ca cn cc] 48 (0,0))):
 mN ij M w 48 #[] #[pK k] (fun x=>decide (x.token=tok)):=by
 refine⟨⟨_,_,Tryz.func48,rfl⟩,?_⟩
 rintro x cs v w' hk' hR rfl
 obtain⟨rfl,hok⟩:=hR.seen
 exact Cd ((hk'.blk k (ab hk) (by simp)).trans hk) fun _ _ w1 hk1 _=>⟨rfl,hk1⟩
section
variable {M M' F Fd:List Nat} {w:World} {s l d:Nat} {num nxt:Int} {st:bg} {k:Dk}
theorem aK.ld{j:Nat}{v:Value}(h:aK M w s l d num nxt st F)(hj:j=0/\v=pK l∨j=1/\v=iv st.id∨j=5/\v=iv st.use):ao w ((⟨s,0,none⟩:Addr).add j) [v]:=by
 obtain⟨m,ra,rn,rc,qa,qn,qc,h,hl,rfl⟩:=h
 rw[al,Nat.zero_add]
 rcases hj with ⟨rfl,rfl⟩|⟨rfl,rfl⟩|⟨rfl,rfl⟩
 ·exact ak h.hs 0 _ rfl
 ·exact ak h.hs 1 _ rfl
 ·exact ak h.hs 5 _ rfl
theorem aM.ld(hl:aM w l d num nxt):ao w ((⟨l,0,none⟩:Addr).add 0) [pK d]/\ao w ((⟨l,0,none⟩:Addr).add 1) [.int .u64 num]:=by
 rw[al,al]
 exact⟨ak hl 0 _ rfl,ak hl 1 _ rfl⟩
theorem vU(h:aK M w s l d num nxt st F)(hd:bz M' w d k Fd)(h2:2<=k.n)(hu:0<=st.use/\st.use<=1000000):
 Calls Zz 29 #[pK s] w (aA (.tuple #[iv (if cw st k≠0 then 0 else k.half - st.use),iv (cw st k)]) w):=by
 refine CU ⟨(gH h hd).mono ?_⟩
 rintro e w1 ⟨rfl,hk1⟩
 refine⟨_,rfl,hk1,fun hne=>⟨by rw[if_pos hne],hk1⟩,fun hz=>?_⟩
 have hz':=Classical.not_not.1 hz
 have h1:=h.kp0 hk1
 have hd1:=hd.kp0 hk1
 obtain⟨q,q1,q2,q3⟩:=hd.ok.secs
 have hh:=k.half_le
 refine⟨_,h1.ld (.inl ⟨rfl,rfl⟩),_,rfl,_,h1.log.ld.1,_,h1.ld (.inr (.inr ⟨rfl,rfl⟩)),fun w2 hk2=>⟨(fB (hd1.kp0 hk2) h2).mono ?_⟩⟩
 rintro e w3 ⟨rfl,hk3⟩
 refine⟨_,rfl,hk3,ae.2 (by omega),?_,(hk1.trans hk2).trans hk3⟩
 rw[hz',if_neg (by simp)]
theorem FE:oe Zz 87 87 9 1 16:=bM (by kernel_rfl)
theorem yd{N:List Nat}(hN:∀b∈N,b<w.heap.size)(h:aK M w s l d num nxt st F)(hd:bz M' w d k Fd)(hbl:st.batches.length<=1000000):
 Calls Zz 30 #[pK s] w fun e w'=>∃a n c,e=.returned (.tuple #[.slice a n c,iv (cw st k)])/\KpL [] w w'/\R (au tS) N w' (if cw st k≠0 then [] else st.batches.map (·.token)) [.slice a n c]:=by
 refine yb ⟨(gH h hd).mono ?_⟩
 rintro e w1 ⟨rfl,hk1⟩
 refine⟨_,rfl,hk1,fun hne=>⟨_,_,_,rfl,hk1,by rw[if_pos hne];exact R.sl_nil _ _ _ _ _⟩,fun hz=>?_⟩
 rw[if_neg hz]
 have hz':=Classical.not_not.1 hz
 have h1:=h.kp0 hk1
 obtain⟨m,ra,rn,rc,qa,qn,qc,h1,hl,rfl⟩:=h1
 have hmx:az=140737488355328:=rfl
 have hq:=h1.bat.len
 have hR:=h1.bat.done (by omega)
 refine⟨qa,qn,qc,by rw[al];exact ak h1.hs 4 _ rfl,fun vs w'=>∃(i:Nat) (a:Option Addr) (n c:Nat),vs=[.slice a n c,iv (i:Int)]/\i<=st.batches.length/\aZ tS N w1 none ((st.batches.map (·.token)).take i) a n c w',
  fun vs _=>match vs with|[_,.int _ i]=>st.batches.length - i.toNat|_=>0,⟨0,none,0,0,rfl,by omega,⟨bI.nil' _ (fun b hb=>Nat.lt_of_lt_of_le (hN b hb) hk1.size),KpL.refl _ _,by simp[aj]⟩⟩,?_⟩
 rintro a2 k3 k4 n2 w2 ⟨i,_,_,_,hv,hi,hC⟩
 simp only[List.cons.injEq,Value.int.injEq,Value.slice.injEq,true_and,and_true]at hv
 obtain⟨⟨rfl,rfl,rfl⟩,rfl⟩:=hv
 have hlA:=hC.acc.len
 rw[List.length_take,List.length_map,Nat.min_eq_left hi]at hlA
 constructor
 ·intro hlt
  have gi:i<st.batches.length:=by omega
  obtain⟨ad,cs,rfl,hv1,hld1,_,_⟩:=(hR.kp0 hC.kpn).sl_get gi
  obtain⟨rfl,hok1⟩:=hv1.seen
  refine⟨ad,rfl,by omega,by omega,_,_,hld1,fun k5 hk5 k6 hk6 w3 hw3 hkn3=>?_⟩
  have hC3:=hC.kp0 hw3
  have hRs:R tS (aj a2++N) w3 st.batches[i].token [.string st.batches[i].token]:=⟨rfl,by have:=hok1.1;omega⟩
  refine aD FE hC3.acc hkn3 hRs (by omega) fun a' c' w4 hC4=>⟨_,_,_,rfl,_,hC4.kp,⟨⟨fun hm=>by have:=(hC.acc.blk_lt _ hm).1;omega⟩,⟨fun hm=>by have:=(hC.acc.blk_lt _ hm).1;omega⟩⟩,ae.2 (by omega),⟨i+1,a',_,c',rfl,by omega,?_⟩,?_⟩
  ·have e1:(st.batches.map (·.token)).take (i+1)=(st.batches.map (·.token)).take i++[st.batches[i].token]:=by
    rw[<-List.take_append_getElem (by simpa using gi),List.getElem_map]
   rw[e1]
   exact hC3.trans hC4
  ·show st.batches.length - ((i:Int)+1).toNat<st.batches.length - (i:Int).toNat
   omega
 ·intro hge
  have hie:i=st.batches.length:=by omega
  subst hie
  rw[List.take_of_length_le (by simp)]at hC
  refine⟨_,_,_,?_,hk1.trans hC.kpn,hC.acc.done (by omega)⟩
  rw[hz']
theorem wi(h:aK M w s l d num nxt st F)(x:Int):Calls Zz 51 #[pK s,iv x] w fun e w'=>e=.returned (iv x)/\aK M w' s l d num nxt (if x≠0 then { st with id:=-1 } else st) F/\ci F w F w':=by
 have h0:=h
 obtain⟨m,ra,rn,rc,qa,qn,qc,h,hl,rfl⟩:=h
 refine C9 ⟨fun hne=>?_,fun hz=>⟨rfl,by rw[if_neg hz];exact h0,ci.refl _ _⟩⟩
 rw[al,if_pos hne]
 refine⟨⟨_,ak h.hs 1 [_] rfl,rfl⟩,bE h.hs,?_⟩
 rintro w1 rfl
 have hk:KpL [s] w (bL w ⟨s,0+1,none⟩ [iv (-1)] 0):=cK w ⟨s,0+1,none⟩ _
 have hb:=cL (off:=1) (l:=[iv (-1)]) h.hs (by simp)
 have hm:=h.pls.mM
 refine⟨rfl,⟨m,ra,rn,rc,qa,qn,qc,⟨hb,h.arr.kp hk (by simp),h.pls.step hk (by simp) (fun b hb=>.inl hb),h.bat.kp hk (by simp),h.sl,h.sM,h.lM,ae.2 (by simp),h.useI,h.keys⟩,hl.keep hk (by simpa using h.sl.symm),rfl⟩,hk.mono (by simp),fun b hb=>.inl hb⟩
theorem oZ(h:aK (Fd++M) w s l d num nxt st F)(hd:bz (F++M) w d k Fd)(hk:ar .i64 (k.st+1)):Calls Zz 67 #[pK s] w fun e w'=>e=.returned (pK s)/\
 aK (Fd++M) w' s l d num nxt { st with id:=k.st+1 } F/\bz (F++M) w' d { k with st:=k.st+1 } Fd/\ci (F++Fd) w (F++Fd) w':=by
 have h0:=h
 have hsF:=h.sF
 have hlF:=h.lF
 obtain⟨m,ra,rn,rc,qa,qn,qc,h,hl,rfl⟩:=h
 have hd0:=hd
 obtain⟨bd,bn,rd,rn',pe,pn,pc,pk,kn,kc,wr,sy,hd,rfl⟩:=hd
 have hsd:s≠d:=fun e=>hd.m1 (by rw[<-e];simp)
 have hld:l≠d:=fun e=>hd.m1 (by rw[<-e];simp)
 have e0:=h0.ld (.inl ⟨rfl,rfl⟩)
 refine zg ⟨_,e0,_,rfl,_,hl.ld.1,_,rfl,_,hd0.cell.2,hk,_,rfl,?_⟩
 rw[al]
 refine⟨⟨_,ak hd.hd 8 [_] rfl,rfl⟩,bE hd.hd,?_⟩
 rintro w1 rfl
 have hk1:KpL [d] w (bL w ⟨d,0+8,none⟩ [iv (k.st+1)] 0):=cK w ⟨d,0+8,none⟩ _
 have hb1:=cL (off:=8) (l:=[iv (k.st+1)]) hd.hd (by simp)
 generalize bL w ⟨d,0+8,none⟩ [iv (k.st+1)] 0=w1 at *
 have hl1:aM w1 l d num nxt:=hl.keep hk1 (by simpa using hld)
 have hs1:w1.heap[s]?=_:=(hk1.blk s (ab h.hs) (by simpa using hsd)).trans h.hs
 have hD1:=hd.set (k':={ k with st:=k.st+1 }) hk1 (by simp) hb1 rfl rfl hd.pend hd.picks ⟨hd.ok.secs,hd.ok.len,hd.ok.dby,hd.ok.nby,hd.ok.fin,hk,hd.ok.pend⟩
 refine⟨_,by rw[al];exact ak hs1 0 [_] rfl,_,rfl,_,hl1.ld.1,_,rfl,_,by rw[al];exact ak hD1.hd 8 [_] rfl,?_⟩
 refine⟨⟨_,by rw[al];exact ak hs1 1 [_] rfl,rfl⟩,by rw[al];exact bE hs1,?_⟩
 rintro w2 rfl
 rw[al]
 have hk2:KpL [s] w1 (bL w1 ⟨s,0+1,none⟩ [iv (k.st+1)] 0):=cK w1 ⟨s,0+1,none⟩ _
 have hb2:=cL (off:=1) (l:=[iv (k.st+1)]) hs1 (by simp)
 have hkb:KpL [d,s] w (bL w1 ⟨s,0+1,none⟩ [iv (k.st+1)] 0):=(hk1.mono (by simp)).trans (hk2.mono (by simp))
 have hin:∀b∈[d,s],b∈s::l::m::(aj qa++(d::bd::bn::aj pe++M)):=by
  intro b hb
  simp at hb
  rcases hb with rfl|rfl<;>simp
 have hmd:m≠d:=fun e=>hd.m1 (by rw[<-e];simp)
 refine⟨rfl,⟨m,ra,rn,rc,qa,qn,qc,⟨hb2,h.arr.kp hkb hin,h.pls.step hkb (fun b hb=>by
  simp at hb
  rcases hb with rfl|rfl<;>simp) (fun b hb=>.inl hb),h.bat.kp hkb ?_,h.sl,h.sM,h.lM,hk,h.useI,h.keys⟩,hl1.keep hk2 (by simpa using h.sl.symm),rfl⟩,⟨_,_,_,_,_,_,_,_,_,_,_,_,hD1.step hk2 (by simp) ?_,rfl⟩,hkb.mono ?_,fun b hb=>.inl hb⟩
 ·intro b hb
  simp at hb
  rcases hb with rfl|rfl<;>simp
 ·intro b hb
  exact⟨.inl hb,Nat.lt_of_lt_of_le (hd0.mlt b hb) hkb.size⟩
 ·intro b hb
  simp at hb
  rcases hb with rfl|rfl<;>simp
end
end Go.Vc
namespace Go.Vc
open Go Go.Proofs
structure Bt where
 token:ByteArray
 stamp:Int
 array:ByteArray
 changes:List aR
deriving DecidableEq
def de(l:List Int):List Int:=l.flatMap fun n=>bf (dW n)
def iB(c:aR):List Int:=de c.at_++ee c.vals
def cD(arrays:List Nm)(b:Bt):List Int:=dK b.token++bf (dW b.stamp)++bf (IntKind.u64.wrap (aI arrays b.array))++bf b.changes.length++b.changes.flatMap iB
theorem bI.since{α:Type}{e:Ty α}{M N:List Nat}{w w':World}{xs:List α}{a:Option Addr}{n c:Nat}(h:bI e M w xs a n c)(k:KpL [] w w')(hN:∀b∈N,w.heap.size<=b/\b<w'.heap.size):aZ e (N++M) w a xs a n c w' :=
 ⟨h.news k hN,k.mono (by simp),fun _ hb=>.inl hb⟩
theorem aZ.old{α β:Type}{e:Ty α}{M N:List Nat}{w0 w:World}{xs:List α}{a:Option Addr}{n c:Nat}(h:aZ e M w0 none xs a n c w){t:Ty β}{x:β}{cs:List Value}(hR:R t N w0 x cs):R t (aj a++N) w x cs :=
 hR.fresh h.kpn fun b hb=>(h.own b hb).elim (fun h=>by simp[aj]at h) id
theorem dr(n:Nat)(h:n<=1000000000):IntKind.u64.wrap (n:Int)=n:=aE (aJ.2 (by omega))
set_option maxHeartbeats 1000000 in
theorem xO{N Mc F:List Nat}{w:World}{s l d:Nat}{num nxt:Int}{st:bg}{b:Bt}{ca:Option Addr}{cn cc:Nat}(hN:∀x∈N,x<w.heap.size)(h:aK [] w s l d num nxt st F)(hc:R (au aC) Mc w b.changes [.slice ca cn cc])
 (htok:b.token.size<=1000)(hst:ar .i64 b.stamp)(hcl:b.changes.length<=1000)(hch:∀c∈b.changes,c.at_.length<=1000/\(ee c.vals).length<=100000):
 Calls Zz 53 #[pK s,.agg #[.string b.token,iv b.stamp,.string b.array,.slice ca cn cc]] w (tZ (tI .u8) N w (cD st.arrays b)):=by
 have hmx:az=140737488355328:=rfl
 obtain⟨rfl,_,_⟩:=hc.sl_len
 refine xi fun k1 hk1 w1 hw1 hkn1=>?_
 have hM1:∀x∈k1::N,x<w1.heap.size:=by
  intro x hx
  rcases List.mem_cons.1 hx with rfl|hx
  ·exact ab hkn1
  ·exact Nat.lt_of_lt_of_le (hN x hx) hw1.size
 have hc1:=hc.kp0 hw1
 refine⟨(gM (bI.nil' (tI .u8) hM1) (s:=b.token) (by omega)).mono ?_⟩
 rintro e w2 ⟨a1,n1,c1,rfl,hC1⟩
 rw[List.nil_append]at hC1
 have l1:=hC1.acc.len
 have hS:(dK b.token).length<=1010:=by unfold dK;rw[List.length_append,iy];have:=bh b.token.size;omega
 refine⟨_,_,_,rfl,_,hC1.kp,⟨by simp[aj]⟩,fun hkn2=>⟨⟨ak hkn2 2 [_] rfl,ak hkn2 1 [_] rfl,trivial⟩,fun _=>⟨(ef hC1.acc hst (by omega)).mono ?_⟩⟩⟩
 rintro e w3 ⟨a2,n2,c2,rfl,hC2⟩
 have hC12:=hC1.trans hC2
 have l2:=hC2.acc.len
 have hz:=bh (dW b.stamp)
 rw[List.length_append]at l2
 refine⟨_,_,_,rfl,_,hC2.kp,hC1.acc.out (by simp),fun hkn3=>⟨⟨ak hkn3 2 [_] rfl,trivial⟩,fun _=>⟨(qG ((h.kp0 hw1).kp0 hC12.kpn) b.array).mono ?_⟩⟩⟩
 rintro e w4 ⟨rfl,hw4⟩
 have hC4:=hC12.kp0 hw4
 refine⟨_,rfl,hw4,fun _=>⟨(bW hC4.acc (gy _ _) (by omega)).mono ?_⟩⟩
 rintro e w5 ⟨a3,n3,c3,rfl,hC5⟩
 have hC15:=hC4.trans hC5
 have l3:=hC5.acc.len
 have hz3:=bh (IntKind.u64.wrap (aI st.arrays b.array))
 rw[List.length_append,List.length_append]at l3
 refine⟨_,_,_,rfl,_,hC5.kp,hC4.acc.out (by simp),fun _=>?_⟩
 rw[dr _ (by omega)]
 refine⟨(bW hC15.acc (aJ.2 (by omega)) (by omega)).mono ?_⟩
 rintro e w6 ⟨a4,n4,c4,rfl,hC6⟩
 have hC16:=hC15.trans hC6
 have l4:=hC6.acc.len
 have hz4:=bh b.changes.length
 simp only[List.length_append]at l4
 generalize hhead:dK b.token++bf (dW b.stamp)++bf (IntKind.u64.wrap (aI st.arrays b.array))++bf b.changes.length=hd at *
 have hn4:n4<=2000:=by omega
 refine⟨_,_,_,rfl,_,hC6.kp,hC15.acc.out (by simp),fun vs w'=>∃(i:Nat) (a:Option Addr) (n c:Nat),vs=[.slice a n c,iv (i:Int)]/\i<=b.changes.length/\n<=2000+i*200000/\aZ (tI .u8) (k1::N) w1 none (hd++(b.changes.take i).flatMap iB) a n c w',
  fun vs _=>match vs with|[_,.int _ i]=>b.changes.length - i.toNat|_=>0,fun _=>⟨0,_,_,_,rfl,by omega,by omega,by simpa using hC16⟩,?_⟩
 rintro a5 n5 c5 i' w7 ⟨i,_,_,_,hv,hi,hnb,hC7⟩
 simp only[List.cons.injEq,Value.int.injEq,Value.slice.injEq,true_and,and_true]at hv
 obtain⟨⟨rfl,rfl,rfl⟩,rfl⟩:=hv
 constructor
 ·intro hlt
  have gi:i<b.changes.length:=by omega
  obtain⟨ad,cs,rfl,hv1,hld1,_,_⟩:=(hc1.kp0 hC7.kpn).sl_get gi
  obtain⟨_,_,_,_,_,_,hcs,_,_⟩:=hv1.cell
  have hch':=hch b.changes[i] (List.getElem_mem gi)
  have hflat:=cV iB b.changes i gi
  have hold:R aC (aj a5++Mc) w7 b.changes[i] cs:=by
   obtain⟨ad',cs',had',hv',hld',_,_⟩:=hc1.sl_get gi
   simp only[Option.some.injEq]at had'
   subst had'
   have heq:cs=cs':=by
    have h1:=hld1
    have h2:=hld'.kp hC7.kpn
    have hl1:=R.len hv1
    have hl2:=R.len hv'
    apply List.ext_getElem?
    intro j
    by_cases hj:j<aC.sz
    ·have g1:=h1.at_ j cs[j] (List.getElem?_eq_getElem (by omega))
     have g2:=h2.at_ j cs'[j] (List.getElem?_eq_getElem (by omega))
     rw[g1]at g2
     rw[List.getElem?_eq_getElem (by omega),List.getElem?_eq_getElem (by omega)]
     exact g2
    ·rw[List.getElem?_eq_none (by omega),List.getElem?_eq_none (by omega)]
   subst heq
   exact hC7.old hv'
  obtain⟨a6,p6,q6,a7,p7,q7,rfl,hx1,hx2⟩:=hold.cell
  have hp6:=hx1.sl_len'
  generalize b.changes[i]=ch at *
  refine⟨ad,rfl,by omega,hlt,fun hkn7=>⟨_,_,_,_,_,_,hld1,fun k16 hk16=>⟨fun vs w'=>∃(j:Nat) (a:Option Addr) (n c:Nat),vs=[.slice a n c,iv (j:Int)]/\j<=ch.at_.length/\n<=n5+j*10/\k16<w'.heap.size/\
   aZ (tI .u8) ([k16]++(k1::N)) w7 a5 (hd++(b.changes.take i).flatMap iB++de (ch.at_.take j)) a n c w',fun vs _=>match vs with|[_,.int _ j]=>ch.at_.length - j.toNat|_=>0,fun w8 hw8 hkn8=>⟨0,_,_,_,rfl,by omega,by omega,ab hkn8.1,?_⟩,?_⟩⟩⟩
  ·have:=hC7.acc.since hw8 (N:=[k16]) (by simpa using ⟨hk16,ab hkn8.1⟩)
   simpa[de]using this
  rintro a8 n8 c8 j' w9 ⟨j,_,_,_,hv,hj,hnb8,hk16l,hC9⟩
  simp only[List.cons.injEq,Value.int.injEq,Value.slice.injEq,true_and,and_true]at hv
  obtain⟨⟨rfl,rfl,rfl⟩,rfl⟩:=hv
  constructor
  ·intro hlt2
   have gj:j<ch.at_.length:=by omega
   obtain⟨ad2,cs2,rfl,hv2,hld2,_,_⟩:=(hC9.data hx1).sl_get gj
   obtain⟨rfl,hok2⟩:=hv2.intD
   refine⟨ad2,rfl,by omega,by omega,fun _=>⟨_,hld2,fun _=>⟨(ef hC9.acc hok2 (by omega)).mono ?_⟩⟩⟩
   rintro e w10 ⟨a9,n9,c9,rfl,hC10⟩
   have l9:=hC10.acc.len
   rw[List.length_append,<-hC9.acc.len]at l9
   have hz9:=bh (dW ch.at_[j])
   refine⟨_,_,_,rfl,_,hC10.kp,⟨hC9.acc.out (by simp),hC9.acc.out (by simp)⟩,ae.2 (by omega),fun _=>⟨⟨j+1,a9,n9,c9,rfl,by omega,by omega,Nat.lt_of_lt_of_le hk16l hC10.kp.size,?_⟩,?_⟩⟩
   ·have:=hC9.trans hC10
    have e1:de (ch.at_.take (j+1))=de (ch.at_.take j)++bf (dW ch.at_[j]):=cV (fun n=>bf (dW n)) ch.at_ j gj
    rw[e1,<-List.append_assoc]
    exact this
   ·show ch.at_.length - ((j:Int)+1).toNat<ch.at_.length - (j:Int).toNat
    omega
  ·intro hge2 _
   have hje:j=ch.at_.length:=by omega
   subst hje
   rw[List.take_length]at hC9
   have hvals:R (au cv) (aj a8) w9 ch.vals [.slice a7 p7 q7]:=(hC9.data hx2).weak (by intro x hx;exact List.mem_append_left _ hx)
   refine⟨(jm hC9.acc hvals (by omega)).mono ?_⟩
   rintro e w11 ⟨a10,n10,c10,rfl,hC11⟩
   have l10:=hC11.acc.len
   rw[List.length_append,<-hC9.acc.len]at l10
   refine⟨_,_,_,rfl,_,hC11.kp,⟨hC9.acc.out (by simp),hC9.acc.out (by simp)⟩,ae.2 (by omega),fun _=>⟨⟨i+1,a10,n10,c10,rfl,by omega,by omega,?_⟩,?_⟩⟩
   ·have h1:=(hC9.trans hC11).weak (M':=k1::N) (by intro x hx;exact List.mem_append_right _ hx)
    have h2:=hC7.trans h1
    rw[hflat,<-List.append_assoc]
    have e3:hd++(b.changes.take i).flatMap iB++iB ch=hd++(b.changes.take i).flatMap iB++de ch.at_++ee ch.vals:=by unfold iB;simp only[List.append_assoc]
    rw[e3]
    exact h2
   ·show b.changes.length - ((i:Int)+1).toNat<b.changes.length - (i:Int).toNat
    omega
 ·intro hge _
  have hie:i=b.changes.length:=by omega
  subst hie
  rw[List.take_length]at hC7
  have e1:cD st.arrays b=hd++b.changes.flatMap iB:=by unfold cD;rw[hhead]
  rw[e1]
  exact⟨_,_,_,rfl,(hC7.weak (by intro x hx;simp[hx])).wide hw1⟩
end Go.Vc
namespace Go.Vc
open Go Go.Proofs
theorem fG.step{κ β:Type}{enc:κ->Value}{t:Ty β}{M M' N:List Nat}{w w':World}{m:Nat}{l:List (κ×β)}{arr:Array MapEntry}{clock:Nat}(h:fG enc t M w m l arr clock)(kp:KpL N w w')(hs:∀b∈N,b∈M∨w.heap.size<=b)
 (hn:∀b∈M',b∈M∨w.heap.size<=b):fG enc t M' w' m l arr clock:=by
 have hlt:=ab h.blk
 refine⟨(kp.blk m hlt fun hm=>(hs m hm).elim h.mM (fun hge=>by omega)).trans h.blk,h.keys,fun i e p he hp=>?_,h.born,h.old,h.nd,fun hm=>(hn m hm).elim h.mM (fun hge=>by omega)⟩
 obtain⟨cs,h1,h2⟩:=h.vals i e p he hp
 refine⟨cs,t.mono h1 fun b hb=>⟨⟨Nat.lt_of_lt_of_le hb.1 kp.size,fun hm=>?_⟩,kp.blk b hb.1 fun hm=>?_⟩,h2⟩
 ·rcases List.mem_cons.1 hm with rfl|hm
  ·exact hb.2 (by simp)
  ·rcases hn b hm with hm|hm
   ·exact hb.2 (List.mem_cons_of_mem _ hm)
   ·have:=hb.1;omega
 ·rcases hs b hm with hm|hm
  ·exact hb.2 (List.mem_cons_of_mem _ hm)
  ·have:=hb.1;omega
theorem R.oldN{α:Type}{t:Ty α}{M N N':List Nat}{w w':World}{x:α}{cs:List Value}(h:R t M w x cs)(k:KpL N w w')(hs:∀b∈N,b∈M∨w.heap.size<=b)(hn:∀b∈N',b∈M∨w.heap.size<=b):R t N' w' x cs :=
 t.mono h fun b hb=>⟨⟨Nat.lt_of_lt_of_le hb.1 k.size,fun hm=>(hn b hm).elim hb.2 (fun hge=>by have:=hb.1;omega)⟩,k.blk b hb.1 fun hm=>(hs b hm).elim hb.2 (fun hge=>by have:=hb.1;omega)⟩
theorem kQ{n:Nat}{vis:List Nat}(hnd:vis.Nodup)(hlt:∀i∈vis,i<n)(hall:∀i,i<n->i∈vis):vis.Perm (List.range n) :=
 (List.perm_ext_iff_of_nodup hnd List.nodup_range).2 fun i=>⟨fun h=>List.mem_range.2 (hlt i h),fun h=>hall i (List.mem_range.1 h)⟩
def ck{α:Type}[Inhabited α](l:List α)(vis:List Nat):List α:=vis.map fun i=>l.getD i default
theorem nV{α:Type}[Inhabited α]{l:List α}{vis:List Nat}(h:vis.Perm (List.range l.length)):(ck l vis).Perm l:=by
 refine(h.map _).trans ?_
 have:(List.range l.length).map (fun i=>l.getD i default)=l:=by
  apply List.ext_getElem?
  intro i
  by_cases hi:i<l.length
  ·simp[hi]
  ·simp[hi]
 rw[this]
def mX(d:dI):List Int:=dK d.name++bf (dW d.lo)++bf (dW d.hi)
def kh(a:cI):List Int:=dK a.name++[a.type%256]
def fS(x:Nm):List Int:=dK x.name++bf x.arr.dims.length++x.arr.dims.flatMap mX++bf x.arr.attrs.length++x.arr.attrs.flatMap kh
def dz(s:bH):List Int:=dK s.token++bf (dW s.stamp)
def cY(arrays:List Nm)(a:Int):Nat:=match arrays[a.toNat]? with
 |some x=>x.arr.dims.length
 |none=>0
def dL(arrays:List Nm)(p:Pl×dE):List Int:=bf (IntKind.u64.wrap p.1.a)++de (p.1.co.take (cY arrays p.1.a))++bf (IntKind.u64.wrap p.2.batch)++ee p.2.vals
def iC(arrays:List Nm)(bs:List bH):List Int:=bf arrays.length++arrays.flatMap fS++bf bs.length++bs.flatMap dz
def ap(arrays:List Nm)(bs:List bH)(ps:List (Pl×dE)):List Int:=iC arrays bs++bf ps.length++ps.flatMap (dL arrays)
theorem kB(s:ByteArray):(dK s).length<=s.size+10:=by unfold dK;rw[List.length_append,iy];have:=bh s.size;omega
structure Dq (arrays:List Nm) (bs:List bH) (ps:List (Pl×dE)):Prop where
 an:arrays.length<=1000
 a1:∀x∈arrays,x.name.size<=1000/\x.arr.dims.length<=4/\x.arr.attrs.length<=1000/\(∀d∈x.arr.dims,d.name.size<=1000)/\∀a∈x.arr.attrs,a.name.size<=1000
 bn:bs.length<=1000000
 b1:∀x∈bs,x.token.size<=1000
 pn:ps.length<=1000000
 p1:∀p∈ps,0<=p.1.a/\p.1.a<arrays.length/\(ee p.2.vals).length<=100000
end Go.Vc
namespace Go.Vc
open Go Go.Proofs
instance plDef:Inhabited Pl:=⟨⟨0,0,0,0,0⟩⟩
instance staDef:Inhabited dE:=⟨⟨0,[]⟩⟩
theorem Fu:oe Zz 205 205 143 5 40:=bM (by kernel_rfl)
theorem Eo(w:World):(zeroValue 145).run Zz w=.ok (.agg #[iv 0,.slice none 0 0]) w:=ky (by kernel_rfl) w
theorem fw{κ β:Type}[DecidableEq κ]:∀{l:List (κ×β)} {k:κ} {v:β},(l.map (·.1)).Nodup->(k,v)∈l->bQ l k=some v
 |[],_,_,_,h=>by simp at h
 |p::r,k,v,hnd,h=>by
  unfold bQ
  rw[List.find?_cons]
  rcases List.mem_cons.1 h with rfl|h
  ·simp
  ·have hne:p.1≠k:=by
    rintro rfl
    rw[List.map_cons,List.nodup_cons]at hnd
    exact hnd.1 (List.mem_map.2 ⟨_,h,rfl⟩)
   simp only[hne,decide_false]
   rw[List.map_cons,List.nodup_cons]at hnd
   exact fw hnd.2 h
theorem rP(a:Addr):a.add 0=a:=by
 cases a with
 |mk b o sp=>cases sp<;>simp[Addr.add]
theorem aZ.beside{α:Type}{e:Ty α}{M F:List Nat}{w0 w w':World}{xs:List α}{a:Option Addr}{n c:Nat}(h:aZ e M w0 none xs a n c w)(k:KpL F w w')(hF:∀b∈F,w.heap.size<=b):aZ e M w0 none xs a n c w' :=
 ⟨h.acc.kpNew k fun b hb=>.inr (hF b hb),h.kp.more k fun b hb=>.inr (Nat.le_trans h.kp.size (hF b hb)),h.own⟩
def dV(l:List (Pl×dE))(ks:List Pl):List (Pl×dE):=ks.map fun k=>(k,(bQ l k).getD default)
theorem vM{l:List (Pl×dE)}{ks:List Pl}(hnd:(l.map (·.1)).Nodup)(h:ks.Perm (l.map (·.1))):(dV l ks).Perm l:=by
 refine(h.map _).trans ?_
 have:(l.map (·.1)).map (fun k=>(k,(bQ l k).getD default))=l:=by
  rw[List.map_map]
  conv=>rhs;rw[<-List.map_id l]
  refine List.map_congr_left fun p hp=>?_
  obtain⟨k,v⟩:=p
  simp only[Function.comp_apply,fw hnd hp,Option.getD_some,id]
 rw[this]
set_option maxHeartbeats 4000000 in
theorem tl{N F:List Nat}{w:World}{s l d:Nat}{num nxt:Int}{st:bg}(hN:∀x∈N,x<w.heap.size)(h:aK [] w s l d num nxt st F)(hok:Dq st.arrays st.batches st.places):
 Calls Zz 59 #[pK s] w fun e w'=>∃ps',ps'.Perm st.places/\ps'.Pairwise (fun x y=>iK x.1 y.1<=0)/\tZ (tI .u8) N w (ap st.arrays st.batches ps') e w':=by
 have hmx:az=140737488355328:=rfl
 obtain⟨m,ra,rn,rc,qa,qn,qc,h,hl,rfl⟩:=h
 have hR:=h.arr.bare
 obtain⟨hrn,_,_⟩:=hR.sl_len
 have hq:=h.bat.len
 have hRb:=(h.bat.done (by have:=hok.bn;omega)).bare
 have han:=hok.an
 have hbn:=hok.bn
 have hpn:=hok.pn
 have ld2:∀{w':World},KpL [] w w'->ao w' ((⟨s,0,none⟩:Addr).add 2) [.slice ra rn rc]:=fun hk=>by rw[al];exact ak ((hk.blk s (ab h.hs) (by simp)).trans h.hs) 2 _ rfl
 have ld3:∀{w':World},KpL [] w w'->ao w' ((⟨s,0,none⟩:Addr).add 3) [.map (some m)]:=fun hk=>by rw[al];exact ak ((hk.blk s (ab h.hs) (by simp)).trans h.hs) 3 _ rfl
 have ld4:∀{w':World},KpL [] w w'->ao w' ((⟨s,0,none⟩:Addr).add 4) [.slice qa qn qc]:=fun hk=>by rw[al];exact ak ((hk.blk s (ab h.hs) (by simp)).trans h.hs) 4 _ rfl
 refine AS ⟨_,_,_,ld2 (KpL.refl _ _),?_⟩
 rw[hrn,dr _ (by omega)]
 refine⟨(bW (bI.nil' (tI .u8) hN) (aJ.2 (by omega)) (by omega)).mono ?_⟩
 rintro e w1 ⟨a2,n2,c2,rfl,hC1⟩
 rw[List.nil_append]at hC1
 have l1:=hC1.acc.len
 have z1:=bh st.arrays.length
 have ld2':=ld2 hC1.kpn
 rw[hrn]at ld2'
 refine⟨_,_,_,rfl,_,hC1.kp,_,_,_,ld2',fun vs w'=>∃(i:Nat) (a:Option Addr) (n c:Nat),vs=[.slice a n c,iv (i:Int)]/\i<=st.arrays.length/\n<=100+i*3000000/\aZ (tI .u8) N w none (bf st.arrays.length++(st.arrays.take i).flatMap fS) a n c w',
  fun vs _=>match vs with|[_,.int _ i]=>st.arrays.length - i.toNat|_=>0,⟨0,_,_,_,rfl,by omega,by omega,by simpa using hC1⟩,?_⟩
 rintro a4 n4 c4 i' w2 ⟨i,_,_,_,hv,hi,hnb,hC2⟩
 simp only[List.cons.injEq,Value.int.injEq,Value.slice.injEq,true_and,and_true]at hv
 obtain⟨⟨rfl,rfl,rfl⟩,rfl⟩:=hv
 generalize hxs:bf st.arrays.length++(st.arrays.take i).flatMap fS=xs at hC2
 constructor
 ·
  intro hlt
  have gi:i<st.arrays.length:=by omega
  have hflat:=cV fS st.arrays i gi
  have hxok:=hok.a1 st.arrays[i] (List.getElem_mem gi)
  obtain⟨ad,cs,rfl,hv1,hld1,_,_⟩:=hR.sl_get gi
  obtain⟨a5,p5,q5,a6,p6,q6,a7,p7,q7,rfl,hnsz,hx1,hx2,hx3⟩:=hv1.nm
  have hp5:=hx1.sl_len'
  have hp6:=hx2.sl_len'
  generalize st.arrays[i]=x at *
  obtain⟨o1,o2,o3,o4,o5⟩:=hxok
  subst hp5 hp6
  refine⟨ad,rfl,by omega,hlt,_,_,_,_,_,_,_,_,_,_,hld1.kp hC2.kpn,fun k15 hk15 w3 hw3 hkn3=>?_⟩
  have hI3:=hC2.acc.since hw3 (N:=[k15]) (by simpa using ⟨hk15,ab hkn3⟩)
  refine⟨(gM hI3.acc (s:=x.name) (by omega)).mono ?_⟩
  rintro e w4 ⟨a8,n8,c8,rfl,hI4⟩
  have hI14:=hI3.trans hI4
  have l8:=hI4.acc.len
  rw[List.length_append,<-hC2.acc.len]at l8
  have z8:=kB x.name
  refine⟨_,_,_,rfl,_,hI4.kp,hI3.acc.out (by simp),fun hkn4=>⟨⟨ak hkn4 1 _ rfl,trivial⟩,fun _=>?_⟩⟩
  rw[dr _ (by omega)]
  refine⟨(bW hI4.acc (aJ.2 (by omega)) (by omega)).mono ?_⟩
  rintro e w5 ⟨a9,n9,c9,rfl,hI5⟩
  have hI15:=hI14.trans hI5
  have l9:=hI5.acc.len
  rw[List.length_append,<-hI4.acc.len]at l9
  have z9:=bh x.arr.dims.length
  generalize hys:xs++dK x.name++bf x.arr.dims.length=ys at *
  refine⟨_,_,_,rfl,_,hI5.kp,hI4.acc.out (by simp),fun vs w'=>∃(j:Nat) (a:Option Addr) (n c:Nat),vs=[.slice a n c,iv (j:Int)]/\j<=x.arr.dims.length/\n<=n4+2000+j*2000/\aZ (tI .u8) ([k15]++N) w2 a4 (ys++(x.arr.dims.take j).flatMap mX) a n c w',
   fun vs _=>match vs with|[_,.int _ i]=>x.arr.dims.length - i.toNat|_=>0,fun _=>⟨0,_,_,_,rfl,by omega,by omega,by simpa using hI15⟩,?_⟩
  rintro a10 n10 c10 j' w6 ⟨j,_,_,_,hv,hj,hnb10,hI6⟩
  simp only[List.cons.injEq,Value.int.injEq,Value.slice.injEq,true_and,and_true]at hv
  obtain⟨⟨rfl,rfl,rfl⟩,rfl⟩:=hv
  have hF6:=hC2.trans (hI6.weak (M':=N) (by intro y hy;simp[hy]))
  constructor
  ·
   intro hlt2
   have gj:j<x.arr.dims.length:=by omega
   have hflat2:=cV mX x.arr.dims j gj
   have hdok:=o4 x.arr.dims[j] (List.getElem_mem gj)
   obtain⟨ad2,cs2,rfl,hv2,hld2,_,_⟩:=hx1.sl_get gj
   obtain⟨rfl,hok2⟩:=hv2.dim
   generalize x.arr.dims[j]=dd at *
   refine⟨ad2,rfl,by omega,by omega,fun _=>⟨_,_,_,hld2.kp hF6.kpn,fun k22 hk22 w7 hw7 hkn7=>?_⟩⟩
   have hJ7:=hI6.acc.since hw7 (N:=[k22]) (by simpa using ⟨hk22,ab hkn7.1⟩)
   refine⟨(gM hJ7.acc (s:=dd.name) (by omega)).mono ?_⟩
   rintro e w8 ⟨a11,n11,c11,rfl,hJ8⟩
   have l11:=hJ8.acc.len
   rw[List.length_append,<-hI6.acc.len]at l11
   have z11:=kB dd.name
   refine⟨_,_,_,rfl,_,hJ8.kp,⟨hJ7.acc.out (by simp),hJ7.acc.out (by simp)⟩,fun hkn8=>⟨⟨ak hkn8.1 2 _ rfl,ak hkn8.1 1 _ rfl,trivial⟩,fun _=>⟨(ef hJ8.acc hok2.2.1 (by omega)).mono ?_⟩⟩⟩
   rintro e w9 ⟨a12,n12,c12,rfl,hJ9⟩
   have l12:=hJ9.acc.len
   rw[List.length_append,<-hJ8.acc.len]at l12
   have z12:=bh (dW dd.lo)
   refine⟨_,_,_,rfl,_,hJ9.kp,⟨hJ8.acc.out (by simp),hJ8.acc.out (by simp)⟩,fun hkn9=>⟨⟨ak hkn9.1 2 _ rfl,trivial⟩,fun _=>⟨(ef hJ9.acc hok2.2.2 (by omega)).mono ?_⟩⟩⟩
   rintro e w10 ⟨a13,n13,c13,rfl,hJ10⟩
   have l13:=hJ10.acc.len
   rw[List.length_append,<-hJ9.acc.len]at l13
   have z13:=bh (dW dd.hi)
   have hJ:=((hJ7.trans hJ8).trans hJ9).trans hJ10
   refine⟨_,_,_,rfl,_,hJ10.kp,⟨hJ9.acc.out (by simp),hJ9.acc.out (by simp)⟩,ae.2 (by omega),fun _=>⟨⟨j+1,a13,n13,c13,rfl,by omega,by omega,?_⟩,?_⟩⟩
   ·have h2:=hI6.trans (hJ.weak (M':=[k15]++N) (by intro y hy;exact List.mem_append_right _ hy))
    rw[hflat2,<-List.append_assoc]
    rw[show mX dd=dK dd.name++bf (dW dd.lo)++bf (dW dd.hi) from rfl]
    simp only[List.append_assoc]at h2 ⊢
    exact h2
   ·show x.arr.dims.length - ((j:Int)+1).toNat<x.arr.dims.length - (j:Int).toNat
    omega
  ·intro hge2 _
   have hje:j=x.arr.dims.length:=by omega
   subst hje
   rw[List.take_length]at hI6
   rw[dr _ (by omega)]
   refine⟨(bW hI6.acc (aJ.2 (by omega)) (by omega)).mono ?_⟩
   rintro e w11 ⟨a14,n14,c14,rfl,hI11⟩
   have hI111:=hI6.trans hI11
   have l14:=hI11.acc.len
   rw[List.length_append,<-hI6.acc.len]at l14
   have z14:=bh x.arr.attrs.length
   generalize hzs:ys++x.arr.dims.flatMap mX++bf x.arr.attrs.length=zs at *
   refine⟨_,_,_,rfl,_,hI11.kp,hI6.acc.out (by simp),fun vs w'=>∃(j:Nat) (a:Option Addr) (n c:Nat),vs=[.slice a n c,iv (j:Int)]/\j<=x.arr.attrs.length/\n<=n4+20000+j*2000/\aZ (tI .u8) ([k15]++N) w2 a4 (zs++(x.arr.attrs.take j).flatMap kh) a n c w',
    fun vs _=>match vs with|[_,.int _ i]=>x.arr.attrs.length - i.toNat|_=>0,fun _=>⟨0,_,_,_,rfl,by omega,by omega,by simpa using hI111⟩,?_⟩
   rintro a15 n15 c15 j' w12 ⟨j,_,_,_,hv,hj2,hnb15,hI12⟩
   simp only[List.cons.injEq,Value.int.injEq,Value.slice.injEq,true_and,and_true]at hv
   obtain⟨⟨rfl,rfl,rfl⟩,rfl⟩:=hv
   have hF12:=hC2.trans (hI12.weak (M':=N) (by intro y hy;simp[hy]))
   constructor
   ·
    intro hlt3
    have gj:j<x.arr.attrs.length:=by omega
    have hflat3:=cV kh x.arr.attrs j gj
    have haok:=o5 x.arr.attrs[j] (List.getElem_mem gj)
    obtain⟨ad3,cs3,rfl,hv3,hld3,_,_⟩:=hx2.sl_get gj
    obtain⟨rfl,hok3⟩:=hv3.attr
    generalize x.arr.attrs[j]=aa at *
    have z16:=kB aa.name
    have ety:IntKind.u8.wrap aa.type=aa.type%256:=jn _
    have dec:x.arr.attrs.length - ((j:Int)+1).toNat<x.arr.attrs.length - (j:Int).toNat:=by omega
    refine⟨ad3,rfl,by omega,by omega,fun _=>⟨_,_,hld3.kp hF12.kpn,fun k33 hk33=>⟨fun w13 hw13 hkn13=>?_,fun k39 hk39 w17 hw17 hkn17=>?_⟩⟩⟩
    ·have hJ13:=hI12.acc.since hw13 (N:=[k33]) (by simpa using ⟨hk33,ab hkn13.1⟩)
     refine⟨(gM hJ13.acc (s:=aa.name) (by omega)).mono ?_⟩
     rintro e w14 ⟨a16,n16,c16,rfl,hJ14⟩
     have l16:=hJ14.acc.len
     rw[List.length_append,<-hI12.acc.len]at l16
     refine⟨_,_,_,rfl,_,hJ14.kp,⟨hJ13.acc.out (by simp),hJ13.acc.out (by simp)⟩,fun hkn14=>⟨⟨ak hkn14.1 1 _ rfl,trivial⟩,fun k36 hk36 w15 hw15 hkn15=>?_⟩⟩
     have hJ15:=hJ14.acc.since hw15 (N:=[k36]) (by simpa using ⟨hk36,ab hkn15.1⟩)
     have hb36:=hkn15.1
     rw[ety]at hb36
     refine aD B9 hJ15.acc hb36 (R.int (bC.2 (by omega))) (by omega) fun a17 c17 w16 hJ16=>⟨_,_,_,rfl,_,hJ16.kp,⟨hJ15.acc.out (by simp),hJ15.acc.out (by simp),hJ15.acc.out (by simp)⟩,ae.2 (by omega),fun _=>⟨⟨j+1,a17,_,c17,rfl,by omega,by omega,?_⟩,dec⟩⟩
     have h2:=hI12.trans (((hJ13.trans hJ14).trans ((hJ15.trans hJ16).weak (by intro y hy;exact List.mem_append_right _ hy))).weak (M':=[k15]++N) (by intro y hy;exact List.mem_append_right _ hy))
     rw[hflat3,<-List.append_assoc]
     rw[show kh aa=dK aa.name++[aa.type%256] from rfl]
     simp only[List.append_assoc]at h2 ⊢
     exact h2
    ·have hJ17:=hI12.acc.since hw17 (N:=[k39,k33]) (by
      intro b hb
      simp at hb
      rcases hb with rfl|rfl
      ·exact⟨hk39,ab hkn17.1⟩
      ·exact⟨hk33,ab hkn17.2.1⟩)
     refine⟨(gM hJ17.acc (s:=aa.name) (by omega)).mono ?_⟩
     rintro e w18 ⟨a18,n18,c18,rfl,hJ18⟩
     have l18:=hJ18.acc.len
     rw[List.length_append,<-hI12.acc.len]at l18
     refine⟨_,_,_,rfl,_,hJ18.kp,⟨hJ17.acc.out (by simp),hJ17.acc.out (by simp),hJ17.acc.out (by simp)⟩,fun hkn18=>?_⟩
     have hb39:=hkn18.1
     rw[ety]at hb39
     refine aD B9 hJ18.acc hb39 (R.int (bC.2 (by omega))) (by omega) fun a19 c19 w19 hJ19=>⟨_,_,_,rfl,_,hJ19.kp,⟨hJ18.acc.out (by simp),hJ18.acc.out (by simp),hJ18.acc.out (by simp)⟩,ae.2 (by omega),fun _=>⟨⟨j+1,a19,_,c19,rfl,by omega,by omega,?_⟩,dec⟩⟩
     have h2:=hI12.trans (((hJ17.trans hJ18).trans hJ19).weak (M':=[k15]++N) (by intro y hy;exact List.mem_append_right _ hy))
     rw[hflat3,<-List.append_assoc]
     rw[show kh aa=dK aa.name++[aa.type%256] from rfl]
     simp only[List.append_assoc]at h2 ⊢
     exact h2
   ·intro hge3
    have hje:j=x.arr.attrs.length:=by omega
    subst hje
    rw[List.take_length]at hF12
    refine⟨ae.2 (by omega),fun _=>⟨⟨i+1,a15,n15,c15,rfl,by omega,by omega,?_⟩,?_⟩⟩
    ·rw[hflat,<-List.append_assoc,hxs]
     have:xs++fS x=zs++x.arr.attrs.flatMap kh:=by
      rw[<-hzs,<-hys];unfold fS;simp only[List.append_assoc]
     rw[this]
     exact hF12
    ·show st.arrays.length - ((i:Int)+1).toNat<st.arrays.length - (i:Int).toNat
     omega
 ·intro hge
  have hie:i=st.arrays.length:=by omega
  subst hie
  rw[List.take_length]at hxs
  refine⟨_,_,_,ld4 hC2.kpn,?_⟩
  rw[hq,dr _ (by omega)]
  refine⟨(bW hC2.acc (aJ.2 (by omega)) (by omega)).mono ?_⟩
  rintro e w20 ⟨a21,n21,c21,rfl,hC20⟩
  have hC120:=hC2.trans hC20
  have l21:=hC20.acc.len
  rw[List.length_append,<-hC2.acc.len]at l21
  have z21:=bh st.batches.length
  generalize hys:xs++bf st.batches.length=ys at *
  have ld4':=ld4 hC120.kpn
  rw[hq]at ld4'
  refine⟨_,_,_,rfl,_,hC20.kp,_,_,_,ld4',fun vs w'=>∃(i:Nat) (a:Option Addr) (n c:Nat),vs=[.slice a n c,iv (i:Int)]/\i<=st.batches.length/\n<=4000000000+i*2000/\aZ (tI .u8) N w none (ys++(st.batches.take i).flatMap dz) a n c w',
   fun vs _=>match vs with|[_,.int _ i]=>st.batches.length - i.toNat|_=>0,⟨0,_,_,_,rfl,by omega,by omega,by simpa using hC120⟩,?_⟩
  rintro a23 n23 c23 i' w21 ⟨i,_,_,_,hv,hi,hnb23,hC21⟩
  simp only[List.cons.injEq,Value.int.injEq,Value.slice.injEq,true_and,and_true]at hv
  obtain⟨⟨rfl,rfl,rfl⟩,rfl⟩:=hv
  constructor
  ·
   intro hlt
   have gi:i<st.batches.length:=by omega
   have hflat:=cV dz st.batches i gi
   have hbok:=hok.b1 st.batches[i] (List.getElem_mem gi)
   rw[hq]at hRb
   obtain⟨ad,cs,rfl,hv1,hld1,_,_⟩:=hRb.sl_get gi
   obtain⟨rfl,hok1⟩:=hv1.seen
   generalize st.batches[i]=x at *
   refine⟨ad,rfl,by omega,hlt,_,_,hld1.kp hC21.kpn,fun k52 hk52 w22 hw22 hkn22=>?_⟩
   have hJ22:=hC21.acc.since hw22 (N:=[k52]) (by simpa using ⟨hk52,ab hkn22⟩)
   refine⟨(gM hJ22.acc (s:=x.token) (by omega)).mono ?_⟩
   rintro e w23 ⟨a24,n24,c24,rfl,hJ23⟩
   have l24:=hJ23.acc.len
   rw[List.length_append,<-hC21.acc.len]at l24
   have z24:=kB x.token
   refine⟨_,_,_,rfl,_,hJ23.kp,hJ22.acc.out (by simp),fun hkn23=>⟨⟨ak hkn23 1 _ rfl,trivial⟩,fun _=>⟨(ef hJ23.acc hok1.2 (by omega)).mono ?_⟩⟩⟩
   rintro e w24 ⟨a25,n25,c25,rfl,hJ24⟩
   have l25:=hJ24.acc.len
   rw[List.length_append,<-hJ23.acc.len]at l25
   have z25:=bh (dW x.stamp)
   refine⟨_,_,_,rfl,_,hJ24.kp,hJ23.acc.out (by simp),ae.2 (by omega),fun _=>⟨⟨i+1,a25,n25,c25,rfl,by omega,by omega,?_⟩,?_⟩⟩
   ·have h2:=hC21.trans (((hJ22.trans hJ23).trans hJ24).weak (M':=N) (by intro y hy;exact List.mem_append_right _ hy))
    rw[hflat,<-List.append_assoc]
    rw[show dz x=dK x.token++bf (dW x.stamp) from rfl]
    simp only[List.append_assoc]at h2 ⊢
    exact h2
   ·show st.batches.length - ((i:Int)+1).toNat<st.batches.length - (i:Int).toNat
    omega
  ·intro hge2
   have hie:i=st.batches.length:=by omega
   subst hie
   rw[List.take_length]at hC21
   have hb1:ys++st.batches.flatMap dz=iC st.arrays st.batches:=by rw[<-hys,<-hxs];rfl
   rw[hb1]at hC21
   have hnd:=h.pls.nd
   obtain⟨arr,clock,hM21⟩:=h.pls.kp0 hC21.kpn
   have hk21:=hC21.kpn
   have hs21:=hk21.size
   have ha23:∀b∈aj a23,b<w21.heap.size:=fun b hb=>(hC21.acc.blk_lt b hb).1
   refine⟨_,ld3 hC21.kpn,rR qH hM21 fun w25 hit25 hk25=>⟨_,rfl,[],hk25,?_⟩⟩
   have hr25:=ab hit25.it
   generalize hr:w21.heap.size=r at *
   have hMx:∀b∈r::(aj a23++N),b<w25.heap.size:=by
    intro b hb
    have:=hk25.size
    simp only[List.mem_cons,List.mem_append]at hb
    rcases hb with rfl|hb|hb
    ·exact hr25
    ·have:=ha23 b hb;omega
    ·have:=hN b hb;omega
   refine⟨fun vs w'=>∃(vis:List Nat) (a:Option Addr) (n c:Nat),vs=[.slice a n c]/\ou w' r m arr clock vis/\KpL [r] w25 w'/\bI C3 (r::(aj a23++N)) w' (ck (st.places.map (·.1)) vis) a n c/\(∀b∈aj a,w25.heap.size<=b),
    fun vs _=>match vs with|[.slice _ n _]=>st.places.length+1 - n|_=>0,⟨[],_,_,_,rfl,hit25,KpL.refl _ _,bI.nil' _ hMx,by simp[aj]⟩,?_⟩
   rintro a26 n26 c26 w26 ⟨vis,_,_,_,hv,hit,hk26,hA26,hnew26⟩
   simp only[List.cons.injEq,Value.slice.injEq,and_true]at hv
   obtain⟨rfl,rfl,rfl⟩:=hv
   have hkr:∀{w':World},KpL [r] w25 w'->KpL [r] w21 w':=fun hk=>(hk25.mono (by simp)).trans hk
   have hMk:∀{w':World},KpL [r] w25 w'->fG Pl.enc jz (s::l::(aj qa++[])) w' m st.places arr clock:=fun hk=>hM21.step (hkr hk) (by intro b hb;simp at hb;subst hb;exact .inr (by omega)) fun b hb=>.inl hb
   have hM26:=hMk hk26
   have hal:arr.size=st.places.length:=hM26.len
   have hvl:vis.length<=st.places.length:=by
    have h1:=List.Nodup.length_le_of_subset hit.nd (l₂:=List.range arr.size) (fun i hi=>List.mem_range.2 (hit.lt i hi))
    simpa[hal]using h1
   have hn26:n26=vis.length:=by rw[hA26.len];simp[ck]
   refine mL hM26 hit (fun hall w27 hk27 hh27=>.inl ⟨rfl,[],hk27,?_⟩) (fun i p cs w27 hiv hp hRp hit27 hk27=>.inr ?_)
   rotate_left
   ·
    obtain⟨va,vn,vc,rfl,hbi,hRv⟩:=hRp.sta
    obtain⟨hil,rfl⟩:=List.getElem?_eq_some_iff.1 hp
    have hM27:=hMk (hk26.trans hk27)
    refine⟨_,_,_,_,_,_,_,_,_,rfl,[r],hk27,ke hM27 hit27 fun p' cs' hp' hRp'=>?_⟩
    rw[List.getElem?_eq_getElem hil,Option.some.injEq]at hp'
    subst hp'
    obtain⟨va',vn',vc',rfl,_,_⟩:=hRp'.sta
    refine⟨_,_,_,_,_,_,_,_,_,rfl,[],KpL.refl _ _,fun k100 hk100 k101 hk101 w50 hw50 hkn50=>?_⟩
    have hrM:∀b∈[r],b∈r::(aj a23++N):=by simp
    have hA50:=(hA26.kp hk27 hrM).kp0 hw50
    have hkey:=h.keys st.places[i] (List.getElem_mem hil)
    have s26:=hk26.size
    have s27:=hk27.size
    refine aD Fu hA50 (cs:=(st.places[i]).1.cells) hkn50.1 ⟨rfl,hkey⟩ (by omega) fun a' c' w51 hC51=>⟨_,_,_,rfl,_,hC51.kp,⟨⟨fun hm=>by have:=(hA26.blk_lt _ hm).1;omega⟩,⟨fun hm=>by have:=(hA26.blk_lt _ hm).1;omega⟩⟩,fun _=>⟨⟨vis++[i],a',_,c',rfl,?_,?_,?_,?_⟩,?_⟩⟩
    ·have hrn:r∉aj a26:=fun hm=>(hA50.blk_lt r hm).2 (by simp)
     exact(hit27.keep hw50 (by simp)).keep hC51.kp hrn
    ·have h1:KpL [r] w25 w50:=(hk26.trans hk27).trans (hw50.mono (by simp))
     exact h1.more hC51.kp fun x hx=>.inr (hnew26 x hx)
    ·have e1:ck (st.places.map (·.1)) (vis++[i])=ck (st.places.map (·.1)) vis++[(st.places[i]).1]:=by
      unfold ck
      rw[List.map_append]
      simp[hil]
     rw[e1]
     exact hC51.acc
    ·intro b hb
     rcases hC51.own b hb with hb|hb
     ·exact hnew26 b hb
     ·have:=hw50.size;omega
    ·have h1:=List.Nodup.length_le_of_subset hit27.nd (l₂:=List.range arr.size) (fun i hi=>List.mem_range.2 (hit27.lt i hi))
     simp[hal]at h1
     show st.places.length+1 - (n26+1)<st.places.length+1 - n26
     omega
   have hperm:vis.Perm (List.range (st.places.map (·.1)).length):=by
    rw[List.length_map]
    exact kQ hit.nd (fun i hi=>by have:=hit.lt i hi;omega) hall
   have hps:=nV hperm
   generalize ck (st.places.map (·.1)) vis=ks at *
   have hA27:=hA26.kp0 hk27
   have hn26':n26=st.places.length:=by rw[hA26.len,hps.length_eq,List.length_map]
   refine⟨(yS hA27 (by omega)).mono ?_⟩
   rintro e w28 ⟨rfl,hk28,ks',hks,hsort,hRk⟩
   have hkp:=hks.trans hps
   have hplp:=vM hnd hkp
   have hF:KpL (r::aj a26) w21 w28:=(((hkr hk26).mono (by simp)).trans (hk27.mono (by simp))).trans (hk28.mono (fun x hx=>List.mem_cons_of_mem _ hx))
   have hFn:∀b∈r::aj a26,w21.heap.size<=b:=by
    intro b hb
    rcases List.mem_cons.1 hb with rfl|hb
    ·omega
    ·have:=hnew26 b hb;have:=hk25.size;omega
   have hC28:=hC21.beside hF hFn
   have hksl:ks'.length=st.places.length:=by rw[hkp.length_eq,List.length_map]
   refine⟨rfl,_,hk28,?_⟩
   rw[hn26',dr _ (by omega)]
   refine⟨(bW hC28.acc (aJ.2 (by omega)) (by omega)).mono ?_⟩
   rintro e w29 ⟨a27,n27,c27,rfl,hT29⟩
   have l27:=hT29.acc.len
   rw[List.length_append,<-hC28.acc.len]at l27
   have z27:=bh st.places.length
   generalize hws:iC st.arrays st.batches++bf st.places.length=ws at *
   refine⟨_,_,_,rfl,_,hT29.kp,fun vs w'=>∃(i:Nat) (a:Option Addr) (n c:Nat),vs=[.slice a n c,iv (i:Int)]/\i<=ks'.length/\n<=7000000000+i*200000/\aZ (tI .u8) N w28 a23 (ws++((dV st.places ks').take i).flatMap (dL st.arrays)) a n c w',
    fun vs _=>match vs with|[_,.int _ i]=>ks'.length - i.toNat|_=>0,⟨0,_,_,_,rfl,by omega,by omega,by simpa using hT29⟩,?_⟩
   rintro a28 n28 c28 i' w30 ⟨i,_,_,_,hv,hi,hnb28,hT30⟩
   simp only[List.cons.injEq,Value.int.injEq,Value.slice.injEq,true_and,and_true]at hv
   obtain⟨⟨rfl,rfl,rfl⟩,rfl⟩:=hv
   have hF30:=hC28.trans hT30
   constructor
   ·
    intro hlt
    have gi:i<ks'.length:=by omega
    have gi2:i<(dV st.places ks').length:=by simpa[dV]using gi
    have hflat:=cV (dL st.arrays) (dV st.places ks') i gi2
    have hRk30:R (au C3) (aj a28++[]) w30 ks' [.slice a26 st.places.length c26]:=hT30.data (by
     have:R (au C3) (r::(aj a23++N)) w28 ks' [.slice a26 n26 c26]:=hRk
     rw[hn26']at this
     exact this.weak (by intro x hx;simp at hx;simp[hx]))
    obtain⟨ad,cs,rfl,hv1,hld1,_,_⟩:=hRk30.sl_get gi
    obtain⟨rfl,hokp⟩:=hv1.pl
    obtain⟨sta,hsta⟩:∃sta,(ks'[i],sta)∈st.places:=by
     have:ks'[i]∈st.places.map (·.1):=hkp.mem_iff.1 (List.getElem_mem gi)
     obtain⟨q,hq,he⟩:=List.mem_map.1 this
     exact⟨q.2,by rw[<-he];exact hq⟩
    have hget:=fw hnd hsta
    have hpi:(dV st.places ks')[i]=(ks'[i],sta):=by simp[dV,hget]
    rw[hpi]at hflat
    have hp1:=hok.p1 _ hsta
    generalize hpk:ks'[i]=p at *
    obtain⟨q1,q2,q3⟩:=hp1
    simp only at q1 q2 q3
    have ga:p.a.toNat<st.arrays.length:=by omega
    obtain⟨ad7,cs7,rfl,hv7,hld7,_,_,hpt7⟩:=hR.sl_get2 ga
    obtain⟨a31,p31,q31,a6,p6,q6,a7,p7,q7,rfl,hnsz,hx1,hx2,hx3⟩:=hv7.nm
    have hdl:=hx1.sl_len'
    have hnd4:=(hok.a1 _ (List.getElem_mem ga)).2.1
    have hndm:cY st.arrays p.a=p31:=by unfold cY;rw[List.getElem?_eq_getElem ga];exact hdl
    rw[hdl]at hnd4
    refine⟨ad,rfl,by omega,by omega,p.a,p.p0,p.p1,p.p2,p.p3,hld1,fun k63 hk63 w31 hw31 hkn31=>?_⟩
    have hI31:=hT30.acc.since hw31 (N:=[k63]) (by simpa using ⟨hk63,ab hkn31⟩)
    refine⟨(bW hI31.acc (gy _ _) (by omega)).mono ?_⟩
    rintro e w32 ⟨a29,n29,c29,rfl,hI32⟩
    have l29:=hI32.acc.len
    rw[List.length_append,<-hT30.acc.len]at l29
    have z29:=bh (IntKind.u64.wrap p.a)
    have hI132:=hI31.trans hI32
    have hF32:=hF30.trans (hI132.weak (M':=N) (by intro y hy;simp[hy]))
    refine⟨_,_,_,rfl,_,hI32.kp,hI31.acc.out (by simp),_,_,_,ld2 hF32.kpn,_,rfl,by omega,by omega,a31,p31,q31,by rw[rP];exact(hpt7 1 [_] rfl).kp hF32.kpn,fun vs w'=>∃(j:Nat) (a:Option Addr) (n c:Nat),vs=[.slice a n c,iv (j:Int)]/\j<=p31/\n<=n28+10+j*10/\k63<w'.heap.size/\
     aZ (tI .u8) ([k63]++N) w30 a28 (ws++((dV st.places ks').take i).flatMap (dL st.arrays)++bf (IntKind.u64.wrap p.a)++de (p.co.take j)) a n c w',fun vs _=>match vs with|[_,.int _ i]=>p31 - i.toNat|_=>0,
     fun w33 hw33 hkn33=>⟨0,_,_,_,rfl,by omega,by omega,ab hkn33,by simpa[de]using hI132.kp0 hw33⟩,?_⟩
    rintro a32 n32 c32 j' w34 ⟨j,_,_,_,hv,hj,hnb32,hk63l,hI34⟩
    simp only[List.cons.injEq,Value.int.injEq,Value.slice.injEq,true_and,and_true]at hv
    obtain⟨⟨rfl,rfl,rfl⟩,rfl⟩:=hv
    constructor
    ·intro hlt2
     have hj4:j<p.co.length:=by show j<4;omega
     have hin:ar .i64 p.co[j]:=by
      have:=List.getElem_mem hj4
      simp only[Pl.co,List.mem_cons,List.not_mem_nil,or_false]at this
      rcases this with e|e|e|e<;>simp only[Pl.co,e]
      ·exact hokp.2.1
      ·exact hokp.2.2.1
      ·exact hokp.2.2.2.1
      ·exact hokp.2.2.2.2
     refine⟨by omega,by omega,fun hkn34=>⟨p.co[j],?_,fun _=>⟨(ef hI34.acc hin (by omega)).mono ?_⟩⟩⟩
     ·rw[al]
      refine ak hkn34 _ _ ?_
      rw[show 0+1+(j:Int).toNat*1=j+1 from by omega]
      match j,hj4 with
      |0,_=>rfl
      |1,_=>rfl
      |2,_=>rfl
      |3,_=>rfl
     rintro e w35 ⟨a33,n33,c33,rfl,hI35⟩
     have l33:=hI35.acc.len
     rw[List.length_append,<-hI34.acc.len]at l33
     have z33:=bh (dW p.co[j])
     refine⟨_,_,_,rfl,_,hI35.kp,hI34.acc.out (by simp),ae.2 (by omega),fun _=>⟨⟨j+1,a33,n33,c33,rfl,by omega,by omega,Nat.lt_of_lt_of_le hk63l hI35.kp.size,?_⟩,?_⟩⟩
     ·have e1:de (p.co.take (j+1))=de (p.co.take j)++bf (dW p.co[j]):=cV (fun n=>bf (dW n)) p.co j hj4
      rw[e1,<-List.append_assoc]
      exact hI34.trans hI35
     ·show p31 - ((j:Int)+1).toNat<p31 - (j:Int).toNat
      omega
    ·intro hge2
     have hje:j=p31:=by omega
     subst hje
     have hF34:=hF30.trans (hI34.weak (M':=N) (by intro y hy;simp[hy]))
     have dec:ks'.length - ((i:Int)+1).toNat<ks'.length - (i:Int).toNat:=by omega
     have mapAt:∀{wx:World} {ax:Option Addr} {nx cx:Nat} {xs':List Int},aZ (tI .u8) N w none xs' ax nx cx wx->cZ Pl.enc jz (aj ax) wx m st.places:=fun hC=>h.pls.step hC.kpn (by simp) fun b hb=>(hC.own b hb).elim (fun h=>by simp[aj]at h) .inr
     have ce:∀{wx:World} {ax:Option Addr} {nx cx:Nat} {xs':List Int} {Q:Value->World->Prop},aZ (tI .u8) N w none xs' ax nx cx wx->(∀va vn vc,ar .i64 sta.batch->R (au cv) (aj ax++[]) wx sta.vals [.slice va vn vc]->Q (.agg #[iv sta.batch,.slice va vn vc]) wx)->
      Ev Zz (Instr.lookup 114 (.map (some m)) (.agg #[iv p.a,iv p.p0,iv p.p1,iv p.p2,iv p.p3]) false) wx Q:=by
      intro wx ax nx cx xs' Q hC hq
      refine jp (enc:=Pl.enc) mH qH Eo (mapAt hC) p false (fun x cs hg hR=>?_) (fun hg=>?_)
      ·rw[hget]at hg
       simp only[Option.some.injEq]at hg
       subst hg
       obtain⟨va,vn,vc,rfl,hb,hv⟩:=hR.sta
       exact hq va vn vc hb (hv.weak (by intro x hx;simp at hx;simp[hx]))
      ·rw[hget]at hg;cases hg
     have fin:∀{wx wy:World} {ax ay:Option Addr} {nx cx ny cy:Nat},KpL [] w34 w34->aZ (tI .u8) ([k63]++N) w34 a32 (ws++((dV st.places ks').take i).flatMap (dL st.arrays)++bf (IntKind.u64.wrap p.a)++de (p.co.take j)++bf (IntKind.u64.wrap sta.batch)) ax nx cx wx->
      aZ (tI .u8) ([k63]++N) wx ax (ws++((dV st.places ks').take i).flatMap (dL st.arrays)++bf (IntKind.u64.wrap p.a)++de (p.co.take j)++bf (IntKind.u64.wrap sta.batch)++ee sta.vals) ay ny cy wy->
      ∃(i':Nat) (a:Option Addr) (n c:Nat),[Value.slice ay ny cy,iv ((i:Int)+1)]=[.slice a n c,iv (i':Int)]/\i'<=ks'.length/\n<=7000000000+i'*200000/\aZ (tI .u8) N w28 a23 (ws++((dV st.places ks').take i').flatMap (dL st.arrays)) a n c wy:=by
      intro wx wy ax ay nx cx ny cy _ h1 h2
      have lx:=h1.acc.len
      have ly:=h2.acc.len
      rw[List.length_append,<-hI34.acc.len]at lx
      rw[List.length_append,<-h1.acc.len]at ly
      have z1:=bh (IntKind.u64.wrap sta.batch)
      refine⟨i+1,ay,ny,cy,rfl,by omega,by omega,?_⟩
      have h3:=hT30.trans (((hI34.trans h1).trans h2).weak (M':=N) (by intro y hy;simp[hy]))
      rw[hflat,<-List.append_assoc]
      have e1:dL st.arrays (p,sta)=bf (IntKind.u64.wrap p.a)++de (p.co.take j)++bf (IntKind.u64.wrap sta.batch)++ee sta.vals:=by unfold dL;rw[hndm]
      rw[e1]
      simp only[List.append_assoc]at h3 ⊢
      exact h3
     have pld:∀{wx:World},wx.heap[k63]?=some (.cells #[iv p.a,iv p.p0,iv p.p1,iv p.p2,iv p.p3] 143 (0,0))->ao wx ⟨k63,0,none⟩ [iv p.a,iv p.p0,iv p.p1,iv p.p2,iv p.p3]:=fun hb=>ak hb 0 _ rfl
     have full:∀{wx:World} {ax:Option Addr} {nx cx:Nat} {xs':List Int},aZ (tI .u8) ([k63]++N) w34 a32 xs' ax nx cx wx->aZ (tI .u8) N w none xs' ax nx cx wx:=fun hC=>hF34.trans (hC.weak (by intro y hy;simp[hy]))
     have base:∀{wx:World},KpL [] w34 wx->aZ (tI .u8) ([k63]++N) w34 a32 (ws++((dV st.places ks').take i).flatMap (dL st.arrays)++bf (IntKind.u64.wrap p.a)++de (p.co.take j)) a32 n32 c32 wx:=fun hk=>(aZ.refl hI34.acc).kp0 hk
     refine⟨_,ld3 hF34.kpn,_,ld3 hF34.kpn,fun w36 hw36 hkn36=>?_,fun w44 hw44 hkn44=>?_⟩
     ·have hB36:=base hw36
      refine ce (full hB36) fun va vn vc hbi hRv=>⟨_,_,_,_,rfl,[],KpL.refl _ _,⟨by simp⟩,fun hkn37=>⟨⟨pld hkn37,ld3 (full hB36).kpn,trivial⟩,fun _=>⟨(bW hB36.acc (gy _ _) (by omega)).mono ?_⟩,fun _=>?_⟩⟩
      ·rintro e w38 ⟨a35,n35,c35,rfl,hN38⟩
       have hB38:=hB36.trans hN38
       have l35:=hN38.acc.len
       rw[List.length_append,<-hI34.acc.len]at l35
       have z35:=bh (IntKind.u64.wrap sta.batch)
       refine⟨_,_,_,rfl,_,hN38.kp,hB36.acc.out (by simp),fun hkn38=>⟨⟨pld hkn38,ld3 (full hB38).kpn,trivial⟩,fun _=>ce (full hB38) fun va' vn' vc' hbi' hRv'=>⟨_,_,_,_,rfl,[],KpL.refl _ _,⟨by simp⟩,fun _=>⟨(jm hB38.acc (hRv'.weak (by intro x hx;simp[hx])) (by omega)).mono ?_⟩⟩⟩⟩
       rintro e w40 ⟨a37,n37,c37,rfl,hV⟩
       exact⟨_,_,_,rfl,_,hV.kp,hB38.acc.out (by simp),ae.2 (by omega),fun _=>⟨fin (KpL.refl _ _) hB38 hV,dec⟩⟩
      ·refine ce (full hB36) fun va' vn' vc' hbi' hRv'=>⟨_,_,_,_,rfl,[],KpL.refl _ _,⟨by simp⟩,fun _=>⟨(bW hB36.acc (gy _ _) (by omega)).mono ?_⟩⟩
       rintro e w42 ⟨a39,n39,c39,rfl,hN42⟩
       have hB42:=hB36.trans hN42
       have l39:=hN42.acc.len
       rw[List.length_append,<-hI34.acc.len]at l39
       have z39:=bh (IntKind.u64.wrap sta.batch)
       refine⟨_,_,_,rfl,_,hN42.kp,hB36.acc.out (by simp),fun _=>⟨(jm hB42.acc ((hN42.data hRv').weak (by intro x hx;simp[hx])) (by omega)).mono ?_⟩⟩
       rintro e w43 ⟨a40,n40,c40,rfl,hV⟩
       exact⟨_,_,_,rfl,_,hV.kp,hB42.acc.out (by simp),ae.2 (by omega),fun _=>⟨fin (KpL.refl _ _) hB42 hV,dec⟩⟩
     ·have hB44:=base hw44
      refine ce (full hB44) fun va vn vc hbi hRv=>⟨_,_,_,_,rfl,[],KpL.refl _ _,⟨by simp⟩,fun hkn45=>⟨⟨pld hkn45,ld3 (full hB44).kpn,trivial⟩,fun _=>ce (full hB44) fun va' vn' vc' hbi' hRv'=>⟨_,_,_,_,rfl,[],KpL.refl _ _,⟨by simp⟩,fun _=>⟨(bW hB44.acc (gy _ _) (by omega)).mono ?_⟩⟩⟩⟩
      rintro e w47 ⟨a43,n43,c43,rfl,hN47⟩
      have hB47:=hB44.trans hN47
      have l43:=hN47.acc.len
      rw[List.length_append,<-hI34.acc.len]at l43
      have z43:=bh (IntKind.u64.wrap sta.batch)
      refine⟨_,_,_,rfl,_,hN47.kp,hB44.acc.out (by simp),fun _=>⟨(jm hB47.acc ((hN47.data hRv).weak (by intro x hx;simp[hx])) (by omega)).mono ?_⟩⟩
      rintro e w48 ⟨a44,n44,c44,rfl,hV⟩
      exact⟨_,_,_,rfl,_,hV.kp,hB47.acc.out (by simp),ae.2 (by omega),fun _=>⟨fin (KpL.refl _ _) hB47 hV,dec⟩⟩
   ·intro hge3
    have hie:i=ks'.length:=by omega
    subst hie
    have hful:(dV st.places ks').take ks'.length=dV st.places ks':=List.take_of_length_le (by simp[dV])
    rw[hful]at hF30
    refine⟨dV st.places ks',hplp,?_,_,_,_,rfl,?_⟩
    ·unfold dV
     rw[List.pairwise_map]
     exact hsort
    ·have:ap st.arrays st.batches (dV st.places ks')=ws++(dV st.places ks').flatMap (dL st.arrays):=by
      unfold ap
      rw[hplp.length_eq,hws]
     rw[this]
     exact hF30
end Go.Vc
namespace Go.Vc
open Go Go.Proofs
open Go.Value Go.Ending Go.IntKind
set_option maxRecDepth 100000
section
variable{w:World}{R:Ending->World->Prop}
theorem tT{s l:Nat}{id:Int}{ra:Option Addr}{rn rc:Nat}{mo:Option Nat}{qa:Option Addr}{qn qc:Nat}{us:Int}{tok:ByteArray}{stp:Int}{arn:ByteArray}{ca:Option Addr}{cn cc:Nat}
 (hk:Hb w s #[pK l,iv id,slice ra rn rc,map mo,slice qa qn qc,iv us] 116)
 (h :
 ∀k1,w.heap.size<=k1->∀k2,w.heap.size<=k2->∀w1,KpL [] w w1->Hb w1 k2 #[string tok,iv stp] 112/\Hb w1 k1 #[string tok,iv stp,string arn,slice ca cn cc] 48/\Hb w1 s #[pK l,iv id,slice ra rn rc,map mo,slice qa qn qc,iv us] 116->Ev Zz (Builtin.append_ #[110,110] 110 #[slice qa qn qc,sK k2 1 1]) w1 fun y1 w2 =>
 ∃a1 k3 k4,y1=slice a1 k3 k4/\∃l1,KpL l1 w1 w2/\(af k2 l1/\af k1 l1/\af s l1)/\∀w3,KpL [s] w2 w3->Hb w3 k2 #[string tok,iv stp] 112/\Hb w3 k1 #[string tok,iv stp,string arn,slice ca cn cc] 48/\Hb w3 s #[pK l,iv id,slice ra rn rc,map mo,slice a1 k3 k4,iv us] 116->ag Zz 103 #[pK s,string arn] w3 fun e1 w4 =>
 ∃n1,e1=returned (iv n1)/\KpL [] w3 w4/\∃(P1:LP)(P2:LM),(Hb w4 k2 #[string tok,iv stp] 112/\Hb w4 k1 #[string tok,iv stp,string arn,slice ca cn cc] 48/\Hb w4 s #[pK l,iv id,slice ra rn rc,map mo,slice a1 k3 k4,iv us] 116->P1 [iv 0] w4)/\∀n2 w5,P1 [iv n2] w5->(n2<(↑cn:Int)->Ad ca n2 cn fun d1=>(Hb w5 k2 #[string tok,iv stp] 112/\Hb w5 k1 #[string tok,iv stp,string arn,slice ca cn cc] 48/\Hb w5 s #[pK l,iv id,slice ra rn rc,map mo,slice a1 k3 k4,iv us] 116->∃a2 k5 k6 a3 k7 k8,ao w5 (d1.add (n2.toNat*2)) [slice a2 k5 k6,slice a3 k7 k8]/\∀k9,w5.heap.size<=k9->∀w6,KpL [] w5 w6->Hb w6 k9 #[slice a2 k5 k6,slice a3 k7 k8] 81/\Hb w6 k2 #[string tok,iv stp] 112/\Hb w6 k1 #[string tok,iv stp,string arn,slice ca cn cc] 48/\Hb w6 s #[pK l,iv id,slice ra rn rc,map mo,slice a1 k3 k4,iv us] 116->ag Zz 78 #[iv n1,slice a2 k5 k6] w6 fun e2 w7 =>
 ∃n3 n4 n5 n6 n7,e2=returned (agg #[iv n3,iv n4,iv n5,iv n6,iv n7])/\KpL [] w6 w7/\∀k10,w7.heap.size<=k10->∀w8,KpL [] w7 w8->Hb w8 k10 #[iv n3,iv n4,iv n5,iv n6,iv n7] 143/\Hb w8 k9 #[slice a2 k5 k6,slice a3 k7 k8] 81/\Hb w8 k2 #[string tok,iv stp] 112/\Hb w8 k1 #[string tok,iv stp,string arn,slice ca cn cc] 48/\Hb w8 s #[pK l,iv id,slice ra rn rc,map mo,slice a1 k3 k4,iv us] 116->Ev Zz (Instr.lookup 114 (map mo) (agg #[iv n3,iv n4,iv n5,iv n6,iv n7]) false) w8 fun y2 w9 =>
 ∃n8 a4 k11 k12,y2=agg #[iv n8,slice a4 k11 k12]/\∃l2,KpL l2 w8 w9/\(af k10 l2/\af k9 l2/\af k2 l2/\af k1 l2/\af s l2)/\(Hb w9 k10 #[iv n3,iv n4,iv n5,iv n6,iv n7] 143/\Hb w9 k9 #[slice a2 k5 k6,slice a3 k7 k8] 81/\Hb w9 k2 #[string tok,iv stp] 112/\Hb w9 k1 #[string tok,iv stp,string arn,slice ca cn cc] 48/\Hb w9 s #[pK l,iv id,slice ra rn rc,map mo,slice a1 k3 k4,iv us] 116->ag Zz 115 #[pointer (some (Addr.mk s (0:Nat) none)),iv (↑k3:Int),iv n8] w9 fun e3 w10 =>
 ∃b1,e3=returned (bv b1)/\KpL [] w9 w10/\(b1=true->∀w11,KpL [] w10 w11->Hb w11 k10 #[iv n3,iv n4,iv n5,iv n6,iv n7] 143/\Hb w11 k9 #[slice a2 k5 k6,slice a3 k7 k8] 81/\Hb w11 k2 #[string tok,iv stp] 112/\Hb w11 k1 #[string tok,iv stp,string arn,slice ca cn cc] 48/\Hb w11 s #[pK l,iv id,slice ra rn rc,map mo,slice a1 k3 k4,iv us] 116->ag Zz 77 #[slice a3 k7 k8] w11 fun e4 w12 =>
 ∃a5 k13 k14,e4=returned (slice a5 k13 k14)/\KpL [] w11 w12/\(Hb w12 k10 #[iv n3,iv n4,iv n5,iv n6,iv n7] 143/\Hb w12 k9 #[slice a2 k5 k6,slice a3 k7 k8] 81/\Hb w12 k2 #[string tok,iv stp] 112/\Hb w12 k1 #[string tok,iv stp,string arn,slice ca cn cc] 48/\Hb w12 s #[pK l,iv id,slice ra rn rc,map mo,slice a1 k3 k4,iv us] 116->Ev Zz (do
 Instr.mapUpdate (114:Nat) (map mo) (agg #[iv n3,iv n4,iv n5,iv n6,iv n7]) (agg #[iv (↑k3:Int),slice a5 k13 k14])
 pure undef) w12 fun y3 w13 =>
 y3=tuple #[]/\∃l3,KpL l3 w12 w13/\(af k10 l3/\af k9 l3/\af k2 l3/\af k1 l3/\af s l3)/\ar i64 (n2+1)/\(Hb w13 k10 #[iv n3,iv n4,iv n5,iv n6,iv n7] 143/\Hb w13 k9 #[slice a2 k5 k6,slice a3 k7 k8] 81/\Hb w13 k2 #[string tok,iv stp] 112/\Hb w13 k1 #[string tok,iv stp,string arn,slice ca cn cc] 48/\Hb w13 s #[pK l,iv id,slice ra rn rc,map mo,slice a1 k3 k4,iv us] 116->P1 [iv (n2+1)] w13/\P2 [iv (n2+1)] w13<P2 [iv n2] w5)))/\(b1=false->ar i64 (n2+1)/\(Hb w10 k10 #[iv n3,iv n4,iv n5,iv n6,iv n7] 143/\Hb w10 k9 #[slice a2 k5 k6,slice a3 k7 k8] 81/\Hb w10 k2 #[string tok,iv stp] 112/\Hb w10 k1 #[string tok,iv stp,string arn,slice ca cn cc] 48/\Hb w10 s #[pK l,iv id,slice ra rn rc,map mo,slice a1 k3 k4,iv us] 116->P1 [iv (n2+1)] w10/\P2 [iv (n2+1)] w10<P2 [iv n2] w5)))))/\(¬n2<(↑cn:Int)->∀w14,KpL [] w5 w14->Hb w14 k2 #[string tok,iv stp] 112/\Hb w14 k1 #[string tok,iv stp,string arn,slice ca cn cc] 48/\Hb w14 s #[pK l,iv id,slice ra rn rc,map mo,slice a1 k3 k4,iv us] 116->ag Zz 49 (#[agg #[string tok,iv stp,string arn,slice ca cn cc]]) w14 fun e5 w15 =>
 ∃n9,e5=returned (iv n9)/\KpL [] w14 w15/\ar i64 (us+n9)/\∀w16,KpL [s] w15 w16->Hb w16 k2 #[string tok,iv stp] 112/\Hb w16 k1 #[string tok,iv stp,string arn,slice ca cn cc] 48/\Hb w16 s #[pK l,iv id,slice ra rn rc,map mo,slice a1 k3 k4,iv (us+n9)] 116->R (returned (tuple #[])) w16)):Calls Zz 54 #[pK s,agg #[string tok,iv stp,string arn,slice ca cn cc]] w R :=
 dD (an:={ loops:=[⟨4,[35],[7,8]++rg 36 28,[]⟩],all:=true }) (args:=[.a (.c (.loc 0 0)),.a (.agg [.v (.string tok),.v (iv stp),.v (.string arn),.v (.slice ca cn cc)])]) (rho:=[s]) (hp:=[(0,116,[.v (pK l),.v (iv id),.v (.slice ra rn rc),.v (.map mo),.v (.slice qa qn qc),.v (iv us)])]) aS Tryz.func54 (by kernel_rfl) rfl rfl hk (by simp) (by simpa using ab hk) rfl (by simp) h
theorem yh{s l:Nat}{id:Int}{ra:Option Addr}{rn rc:Nat}{mo:Option Nat}{qa:Option Addr}{qn qc:Nat}{us:Int}{tok:ByteArray}{stp:Int}{arn:ByteArray}{ca:Option Addr}{cn cc:Nat}
 (hk:Hb w s #[pK l,iv id,slice ra rn rc,map mo,slice qa qn qc,iv us] 116)
 (h :
 ∀k1,w.heap.size<=k1->∀w1,KpL [] w w1->Hb w1 k1 #[string tok,iv stp,string arn,slice ca cn cc] 48/\Hb w1 s #[pK l,iv id,slice ra rn rc,map mo,slice qa qn qc,iv us] 116->ag Zz 103 #[pK s,string arn] w1 fun e1 w2 =>
 ∃n1,e1=returned (iv n1)/\KpL [] w1 w2/\(Hb w2 k1 #[string tok,iv stp,string arn,slice ca cn cc] 48/\Hb w2 s #[pK l,iv id,slice ra rn rc,map mo,slice qa qn qc,iv us] 116->ag Zz 98 #[string tok] w2 fun e2 w3 =>
 ∃b1,e2=returned (bv b1)/\KpL [] w2 w3/\((!b1)=true->Hb w3 k1 #[string tok,iv stp,string arn,slice ca cn cc] 48/\Hb w3 s #[pK l,iv id,slice ra rn rc,map mo,slice qa qn qc,iv us] 116->R (returned (iv 11)) w3)/\((!b1)=false->(¬stp<0->(1099511627776<stp->Hb w3 k1 #[string tok,iv stp,string arn,slice ca cn cc] 48/\Hb w3 s #[pK l,iv id,slice ra rn rc,map mo,slice qa qn qc,iv us] 116->R (returned (iv 3)) w3)/\(¬1099511627776<stp->(n1<0->Hb w3 k1 #[string tok,iv stp,string arn,slice ca cn cc] 48/\Hb w3 s #[pK l,iv id,slice ra rn rc,map mo,slice qa qn qc,iv us] 116->R (returned (iv 4)) w3)/\(¬n1<0->(¬(↑cn:Int)<(1:Int)->((16:Int)<(↑cn:Int)->Hb w3 k1 #[string tok,iv stp,string arn,slice ca cn cc] 48/\Hb w3 s #[pK l,iv id,slice ra rn rc,map mo,slice qa qn qc,iv us] 116->R (returned (iv 9)) w3)/\(¬(16:Int)<(↑cn:Int)->Ad ra n1 rn fun d1=>(Hb w3 k1 #[string tok,iv stp,string arn,slice ca cn cc] 48/\Hb w3 s #[pK l,iv id,slice ra rn rc,map mo,slice qa qn qc,iv us] 116->∃a1 k2 k3 a2 k4 k5 a3 k6 k7,ao w3 ((d1.add (n1.toNat*4)).add 1) [slice a1 k2 k3,slice a2 k4 k5,slice a3 k6 k7]/\∀k8,w3.heap.size<=k8->∀w4,KpL [] w3 w4->Hb w4 k8 #[slice a1 k2 k3,slice a2 k4 k5,slice a3 k6 k7] 58/\Hb w4 k1 #[string tok,iv stp,string arn,slice ca cn cc] 48/\Hb w4 s #[pK l,iv id,slice ra rn rc,map mo,slice qa qn qc,iv us] 116->ag Zz 104 #[slice a1 k2 k3] w4 fun e3 w5 =>
 ∃a4 k9 k10 a5 k11 k12 n2,e3=returned (tuple #[agg #[slice a4 k9 k10,slice a5 k11 k12],iv n2])/\KpL [] w4 w5/\∀k13,w5.heap.size<=k13->∃(P1:LP)(P2:LM),(∀w6,KpL [] w5 w6->Hb w6 k13 #[slice a4 k9 k10,slice a5 k11 k12] 189/\Hb w6 k8 #[slice a1 k2 k3,slice a2 k4 k5,slice a3 k6 k7] 58/\Hb w6 k1 #[string tok,iv stp,string arn,slice ca cn cc] 48/\Hb w6 s #[pK l,iv id,slice ra rn rc,map mo,slice qa qn qc,iv us] 116->P1 [iv 0] w6)/\∀n3 w7,P1 [iv n3] w7->(n3<(↑k11:Int)->Ad a5 n3 k11 fun d2=>(Hb w7 k13 #[slice a4 k9 k10,slice a5 k11 k12] 189/\Hb w7 k8 #[slice a1 k2 k3,slice a2 k4 k5,slice a3 k6 k7] 58/\Hb w7 k1 #[string tok,iv stp,string arn,slice ca cn cc] 48/\Hb w7 s #[pK l,iv id,slice ra rn rc,map mo,slice qa qn qc,iv us] 116->∃n4,ao w7 (d2.add (n3.toNat*1)) [iv n4]/\∃n5,Pv Zz (Builtin.min_ #[3,3] 3 #[iv n4,iv 1073741824]) (iv n5)/\Ad a5 n3 k11 fun d3=>(Hb w7 k13 #[slice a4 k9 k10,slice a5 k11 k12] 189/\Hb w7 k8 #[slice a1 k2 k3,slice a2 k4 k5,slice a3 k6 k7] 58/\Hb w7 k1 #[string tok,iv stp,string arn,slice ca cn cc] 48/\Hb w7 s #[pK l,iv id,slice ra rn rc,map mo,slice qa qn qc,iv us] 116->(∃l1,ao w7 (d3.add (n3.toNat*1)) l1/\l1.length=1)/\aq w7 (d3.add (n3.toNat*1)) 1/\(af k13 [(d3.add (n3.toNat*1)).block]/\af k8 [(d3.add (n3.toNat*1)).block]/\af k1 [(d3.add (n3.toNat*1)).block]/\af s [(d3.add (n3.toNat*1)).block])/\∀w8,w8=bL w7 (d3.add (n3.toNat*1)) [iv n5] 0->ar i64 (n3+1)/\(Hb w8 k13 #[slice a4 k9 k10,slice a5 k11 k12] 189/\Hb w8 k8 #[slice a1 k2 k3,slice a2 k4 k5,slice a3 k6 k7] 58/\Hb w8 k1 #[string tok,iv stp,string arn,slice ca cn cc] 48/\Hb w8 s #[pK l,iv id,slice ra rn rc,map mo,slice qa qn qc,iv us] 116->P1 [iv (n3+1)] w8/\P2 [iv (n3+1)] w8<P2 [iv n3] w7))))/\(¬n3<(↑k11:Int)->∃(P3:LP) (P4:LM),(Hb w7 k13 #[slice a4 k9 k10,slice a5 k11 k12] 189/\Hb w7 k8 #[slice a1 k2 k3,slice a2 k4 k5,slice a3 k6 k7] 58/\Hb w7 k1 #[string tok,iv stp,string arn,slice ca cn cc] 48/\Hb w7 s #[pK l,iv id,slice ra rn rc,map mo,slice qa qn qc,iv us] 116->P3 [iv 0] w7)/\∀n6 w9,P3 [iv n6] w9->(n6<(↑cn:Int)->Ad ca n6 cn fun d4=>(Hb w9 k13 #[slice a4 k9 k10,slice a5 k11 k12] 189/\Hb w9 k8 #[slice a1 k2 k3,slice a2 k4 k5,slice a3 k6 k7] 58/\Hb w9 k1 #[string tok,iv stp,string arn,slice ca cn cc] 48/\Hb w9 s #[pK l,iv id,slice ra rn rc,map mo,slice qa qn qc,iv us] 116->∃a6 k14 k15 a7 k16 k17,ao w9 (d4.add (n6.toNat*2)) [slice a6 k14 k15,slice a7 k16 k17]/\∀k18,w9.heap.size<=k18->(¬(↑k14:Int)≠(↑k2:Int)->((↑k16:Int)≠(0:Int)->((↑k16:Int)≠(↑k4:Int)->∀w10,KpL [] w9 w10->Hb w10 k18 #[slice a6 k14 k15,slice a7 k16 k17] 81/\Hb w10 k13 #[slice a4 k9 k10,slice a5 k11 k12] 189/\Hb w10 k8 #[slice a1 k2 k3,slice a2 k4 k5,slice a3 k6 k7] 58/\Hb w10 k1 #[string tok,iv stp,string arn,slice ca cn cc] 48/\Hb w10 s #[pK l,iv id,slice ra rn rc,map mo,slice qa qn qc,iv us] 116->R (returned (iv 13)) w10)/\(¬(↑k16:Int)≠(↑k4:Int)->∀w11,KpL [] w9 w11->Hb w11 k18 #[slice a6 k14 k15,slice a7 k16 k17] 81/\Hb w11 k13 #[slice a4 k9 k10,slice a5 k11 k12] 189/\Hb w11 k8 #[slice a1 k2 k3,slice a2 k4 k5,slice a3 k6 k7] 58/\Hb w11 k1 #[string tok,iv stp,string arn,slice ca cn cc] 48/\Hb w11 s #[pK l,iv id,slice ra rn rc,map mo,slice qa qn qc,iv us] 116->ag Zz 105 (#[agg #[slice a4 k9 k10,slice a5 k11 k12],slice a6 k14 k15]) w11 fun e4 w12 =>
 ∃b2,e4=returned (bv b2)/\KpL [] w11 w12/\((!b2)=true->Hb w12 k18 #[slice a6 k14 k15,slice a7 k16 k17] 81/\Hb w12 k13 #[slice a4 k9 k10,slice a5 k11 k12] 189/\Hb w12 k8 #[slice a1 k2 k3,slice a2 k4 k5,slice a3 k6 k7] 58/\Hb w12 k1 #[string tok,iv stp,string arn,slice ca cn cc] 48/\Hb w12 s #[pK l,iv id,slice ra rn rc,map mo,slice qa qn qc,iv us] 116->R (returned (iv 3)) w12)/\((!b2)=false->∃(P5:LP) (P6:LM),(Hb w12 k18 #[slice a6 k14 k15,slice a7 k16 k17] 81/\Hb w12 k13 #[slice a4 k9 k10,slice a5 k11 k12] 189/\Hb w12 k8 #[slice a1 k2 k3,slice a2 k4 k5,slice a3 k6 k7] 58/\Hb w12 k1 #[string tok,iv stp,string arn,slice ca cn cc] 48/\Hb w12 s #[pK l,iv id,slice ra rn rc,map mo,slice qa qn qc,iv us] 116->P5 [iv 0] w12)/\∀n7 w13,P5 [iv n7] w13->(n7<(↑k16:Int)->Ad a7 n7 k16 fun d5=>(Hb w13 k18 #[slice a6 k14 k15,slice a7 k16 k17] 81/\Hb w13 k13 #[slice a4 k9 k10,slice a5 k11 k12] 189/\Hb w13 k8 #[slice a1 k2 k3,slice a2 k4 k5,slice a3 k6 k7] 58/\Hb w13 k1 #[string tok,iv stp,string arn,slice ca cn cc] 48/\Hb w13 s #[pK l,iv id,slice ra rn rc,map mo,slice qa qn qc,iv us] 116->∃n8 n9 n10 s1,ao w13 (d5.add (n7.toNat*4)) [iv n8,iv n9,iv n10,string s1]/\∀k19,w13.heap.size<=k19->Ad a2 n7 k4 fun d6=>∃n11,ao w13 ((d6.add (n7.toNat*2)).add 1) [iv n11]/\∀w14,KpL [] w13 w14->Hb w14 k19 #[iv n8,iv n9,iv n10,string s1] 161/\Hb w14 k18 #[slice a6 k14 k15,slice a7 k16 k17] 81/\Hb w14 k13 #[slice a4 k9 k10,slice a5 k11 k12] 189/\Hb w14 k8 #[slice a1 k2 k3,slice a2 k4 k5,slice a3 k6 k7] 58/\Hb w14 k1 #[string tok,iv stp,string arn,slice ca cn cc] 48/\Hb w14 s #[pK l,iv id,slice ra rn rc,map mo,slice qa qn qc,iv us] 116->ag Zz 106 (#[agg #[iv n8,iv n9,iv n10,string s1],iv n11]) w14 fun e5 w15 =>
 ∃b3,e5=returned (bv b3)/\KpL [] w14 w15/\((!b3)=true->Hb w15 k19 #[iv n8,iv n9,iv n10,string s1] 161/\Hb w15 k18 #[slice a6 k14 k15,slice a7 k16 k17] 81/\Hb w15 k13 #[slice a4 k9 k10,slice a5 k11 k12] 189/\Hb w15 k8 #[slice a1 k2 k3,slice a2 k4 k5,slice a3 k6 k7] 58/\Hb w15 k1 #[string tok,iv stp,string arn,slice ca cn cc] 48/\Hb w15 s #[pK l,iv id,slice ra rn rc,map mo,slice qa qn qc,iv us] 116->R (returned (iv 12)) w15)/\((!b3)=false->ar i64 (n7+1)/\(Hb w15 k19 #[iv n8,iv n9,iv n10,string s1] 161/\Hb w15 k18 #[slice a6 k14 k15,slice a7 k16 k17] 81/\Hb w15 k13 #[slice a4 k9 k10,slice a5 k11 k12] 189/\Hb w15 k8 #[slice a1 k2 k3,slice a2 k4 k5,slice a3 k6 k7] 58/\Hb w15 k1 #[string tok,iv stp,string arn,slice ca cn cc] 48/\Hb w15 s #[pK l,iv id,slice ra rn rc,map mo,slice qa qn qc,iv us] 116->P5 [iv (n7+1)] w15/\P6 [iv (n7+1)] w15<P6 [iv n7] w13))))/\(¬n7<(↑k16:Int)->ar i64 (n6+1)/\(Hb w13 k18 #[slice a6 k14 k15,slice a7 k16 k17] 81/\Hb w13 k13 #[slice a4 k9 k10,slice a5 k11 k12] 189/\Hb w13 k8 #[slice a1 k2 k3,slice a2 k4 k5,slice a3 k6 k7] 58/\Hb w13 k1 #[string tok,iv stp,string arn,slice ca cn cc] 48/\Hb w13 s #[pK l,iv id,slice ra rn rc,map mo,slice qa qn qc,iv us] 116->P3 [iv (n6+1)] w13/\P4 [iv (n6+1)] w13<P4 [iv n6] w9)))))/\(¬(↑k16:Int)≠(0:Int)->∀w16,KpL [] w9 w16->Hb w16 k18 #[slice a6 k14 k15,slice a7 k16 k17] 81/\Hb w16 k13 #[slice a4 k9 k10,slice a5 k11 k12] 189/\Hb w16 k8 #[slice a1 k2 k3,slice a2 k4 k5,slice a3 k6 k7] 58/\Hb w16 k1 #[string tok,iv stp,string arn,slice ca cn cc] 48/\Hb w16 s #[pK l,iv id,slice ra rn rc,map mo,slice qa qn qc,iv us] 116->ag Zz 105 (#[agg #[slice a4 k9 k10,slice a5 k11 k12],slice a6 k14 k15]) w16 fun e6 w17 =>
 ∃b4,e6=returned (bv b4)/\KpL [] w16 w17/\((!b4)=true->Hb w17 k18 #[slice a6 k14 k15,slice a7 k16 k17] 81/\Hb w17 k13 #[slice a4 k9 k10,slice a5 k11 k12] 189/\Hb w17 k8 #[slice a1 k2 k3,slice a2 k4 k5,slice a3 k6 k7] 58/\Hb w17 k1 #[string tok,iv stp,string arn,slice ca cn cc] 48/\Hb w17 s #[pK l,iv id,slice ra rn rc,map mo,slice qa qn qc,iv us] 116->R (returned (iv 3)) w17)/\((!b4)=false->∃(P7:LP) (P8:LM),(Hb w17 k18 #[slice a6 k14 k15,slice a7 k16 k17] 81/\Hb w17 k13 #[slice a4 k9 k10,slice a5 k11 k12] 189/\Hb w17 k8 #[slice a1 k2 k3,slice a2 k4 k5,slice a3 k6 k7] 58/\Hb w17 k1 #[string tok,iv stp,string arn,slice ca cn cc] 48/\Hb w17 s #[pK l,iv id,slice ra rn rc,map mo,slice qa qn qc,iv us] 116->P7 [iv 0] w17)/\∀n12 w18,P7 [iv n12] w18->(n12<(↑k16:Int)->Ad a7 n12 k16 fun d7=>(Hb w18 k18 #[slice a6 k14 k15,slice a7 k16 k17] 81/\Hb w18 k13 #[slice a4 k9 k10,slice a5 k11 k12] 189/\Hb w18 k8 #[slice a1 k2 k3,slice a2 k4 k5,slice a3 k6 k7] 58/\Hb w18 k1 #[string tok,iv stp,string arn,slice ca cn cc] 48/\Hb w18 s #[pK l,iv id,slice ra rn rc,map mo,slice qa qn qc,iv us] 116->∃n13 n14 n15 s2,ao w18 (d7.add (n12.toNat*4)) [iv n13,iv n14,iv n15,string s2]/\∀k20,w18.heap.size<=k20->Ad a2 n12 k4 fun d8=>∃n16,ao w18 ((d8.add (n12.toNat*2)).add 1) [iv n16]/\∀w19,KpL [] w18 w19->Hb w19 k20 #[iv n13,iv n14,iv n15,string s2] 161/\Hb w19 k18 #[slice a6 k14 k15,slice a7 k16 k17] 81/\Hb w19 k13 #[slice a4 k9 k10,slice a5 k11 k12] 189/\Hb w19 k8 #[slice a1 k2 k3,slice a2 k4 k5,slice a3 k6 k7] 58/\Hb w19 k1 #[string tok,iv stp,string arn,slice ca cn cc] 48/\Hb w19 s #[pK l,iv id,slice ra rn rc,map mo,slice qa qn qc,iv us] 116->ag Zz 106 (#[agg #[iv n13,iv n14,iv n15,string s2],iv n16]) w19 fun e7 w20 =>
 ∃b5,e7=returned (bv b5)/\KpL [] w19 w20/\((!b5)=true->Hb w20 k20 #[iv n13,iv n14,iv n15,string s2] 161/\Hb w20 k18 #[slice a6 k14 k15,slice a7 k16 k17] 81/\Hb w20 k13 #[slice a4 k9 k10,slice a5 k11 k12] 189/\Hb w20 k8 #[slice a1 k2 k3,slice a2 k4 k5,slice a3 k6 k7] 58/\Hb w20 k1 #[string tok,iv stp,string arn,slice ca cn cc] 48/\Hb w20 s #[pK l,iv id,slice ra rn rc,map mo,slice qa qn qc,iv us] 116->R (returned (iv 12)) w20)/\((!b5)=false->ar i64 (n12+1)/\(Hb w20 k20 #[iv n13,iv n14,iv n15,string s2] 161/\Hb w20 k18 #[slice a6 k14 k15,slice a7 k16 k17] 81/\Hb w20 k13 #[slice a4 k9 k10,slice a5 k11 k12] 189/\Hb w20 k8 #[slice a1 k2 k3,slice a2 k4 k5,slice a3 k6 k7] 58/\Hb w20 k1 #[string tok,iv stp,string arn,slice ca cn cc] 48/\Hb w20 s #[pK l,iv id,slice ra rn rc,map mo,slice qa qn qc,iv us] 116->P7 [iv (n12+1)] w20/\P8 [iv (n12+1)] w20<P8 [iv n12] w18))))/\(¬n12<(↑k16:Int)->ar i64 (n6+1)/\(Hb w18 k18 #[slice a6 k14 k15,slice a7 k16 k17] 81/\Hb w18 k13 #[slice a4 k9 k10,slice a5 k11 k12] 189/\Hb w18 k8 #[slice a1 k2 k3,slice a2 k4 k5,slice a3 k6 k7] 58/\Hb w18 k1 #[string tok,iv stp,string arn,slice ca cn cc] 48/\Hb w18 s #[pK l,iv id,slice ra rn rc,map mo,slice qa qn qc,iv us] 116->P3 [iv (n6+1)] w18/\P4 [iv (n6+1)] w18<P4 [iv n6] w9)))))/\((↑k14:Int)≠(↑k2:Int)->∀w21,KpL [] w9 w21->Hb w21 k18 #[slice a6 k14 k15,slice a7 k16 k17] 81/\Hb w21 k13 #[slice a4 k9 k10,slice a5 k11 k12] 189/\Hb w21 k8 #[slice a1 k2 k3,slice a2 k4 k5,slice a3 k6 k7] 58/\Hb w21 k1 #[string tok,iv stp,string arn,slice ca cn cc] 48/\Hb w21 s #[pK l,iv id,slice ra rn rc,map mo,slice qa qn qc,iv us] 116->R (returned (iv 13)) w21)))/\(¬n6<(↑cn:Int)->Hb w9 k13 #[slice a4 k9 k10,slice a5 k11 k12] 189/\Hb w9 k8 #[slice a1 k2 k3,slice a2 k4 k5,slice a3 k6 k7] 58/\Hb w9 k1 #[string tok,iv stp,string arn,slice ca cn cc] 48/\Hb w9 s #[pK l,iv id,slice ra rn rc,map mo,slice qa qn qc,iv us] 116->Ev Zz (Instr.makeMap 194 none) w9 fun y1 w22 =>
 ∃m1,y1=map m1/\∃l2,KpL l2 w9 w22/\(af k13 l2/\af k8 l2/\af k1 l2/\af s l2)/\∃(P9:LP) (P10:LM),(Hb w22 k13 #[slice a4 k9 k10,slice a5 k11 k12] 189/\Hb w22 k8 #[slice a1 k2 k3,slice a2 k4 k5,slice a3 k6 k7] 58/\Hb w22 k1 #[string tok,iv stp,string arn,slice ca cn cc] 48/\Hb w22 s #[pK l,iv id,slice ra rn rc,map mo,slice qa qn qc,iv us] 116->P9 [iv 0] w22)/\∀n17 w23,P9 [iv n17] w23->(n17<(↑cn:Int)->Ad ca n17 cn fun d9=>(Hb w23 k13 #[slice a4 k9 k10,slice a5 k11 k12] 189/\Hb w23 k8 #[slice a1 k2 k3,slice a2 k4 k5,slice a3 k6 k7] 58/\Hb w23 k1 #[string tok,iv stp,string arn,slice ca cn cc] 48/\Hb w23 s #[pK l,iv id,slice ra rn rc,map mo,slice qa qn qc,iv us] 116->∃a8 k21 k22 a9 k23 k24,ao w23 (d9.add (n17.toNat*2)) [slice a8 k21 k22,slice a9 k23 k24]/\∀k25,w23.heap.size<=k25->∀w24,KpL [] w23 w24->Hb w24 k25 #[slice a8 k21 k22,slice a9 k23 k24] 81/\Hb w24 k13 #[slice a4 k9 k10,slice a5 k11 k12] 189/\Hb w24 k8 #[slice a1 k2 k3,slice a2 k4 k5,slice a3 k6 k7] 58/\Hb w24 k1 #[string tok,iv stp,string arn,slice ca cn cc] 48/\Hb w24 s #[pK l,iv id,slice ra rn rc,map mo,slice qa qn qc,iv us] 116->ag Zz 78 #[iv n1,slice a8 k21 k22] w24 fun e8 w25 =>
 ∃n18 n19 n20 n21 n22,e8=returned (agg #[iv n18,iv n19,iv n20,iv n21,iv n22])/\KpL [] w24 w25/\∀k26,w25.heap.size<=k26->∀w26,KpL [] w25 w26->Hb w26 k26 #[iv n18,iv n19,iv n20,iv n21,iv n22] 143/\Hb w26 k25 #[slice a8 k21 k22,slice a9 k23 k24] 81/\Hb w26 k13 #[slice a4 k9 k10,slice a5 k11 k12] 189/\Hb w26 k8 #[slice a1 k2 k3,slice a2 k4 k5,slice a3 k6 k7] 58/\Hb w26 k1 #[string tok,iv stp,string arn,slice ca cn cc] 48/\Hb w26 s #[pK l,iv id,slice ra rn rc,map mo,slice qa qn qc,iv us] 116->Ev Zz (Instr.lookup 194 (map m1) (agg #[iv n18,iv n19,iv n20,iv n21,iv n22]) false) w26 fun y2 w27 =>
 ∃b6,y2=bv b6/\∃l3,KpL l3 w26 w27/\(af k26 l3/\af k25 l3/\af k13 l3/\af k8 l3/\af k1 l3/\af s l3)/\(b6=true->Hb w27 k26 #[iv n18,iv n19,iv n20,iv n21,iv n22] 143/\Hb w27 k25 #[slice a8 k21 k22,slice a9 k23 k24] 81/\Hb w27 k13 #[slice a4 k9 k10,slice a5 k11 k12] 189/\Hb w27 k8 #[slice a1 k2 k3,slice a2 k4 k5,slice a3 k6 k7] 58/\Hb w27 k1 #[string tok,iv stp,string arn,slice ca cn cc] 48/\Hb w27 s #[pK l,iv id,slice ra rn rc,map mo,slice qa qn qc,iv us] 116->R (returned (iv 5)) w27)/\(b6=false->Hb w27 k26 #[iv n18,iv n19,iv n20,iv n21,iv n22] 143/\Hb w27 k25 #[slice a8 k21 k22,slice a9 k23 k24] 81/\Hb w27 k13 #[slice a4 k9 k10,slice a5 k11 k12] 189/\Hb w27 k8 #[slice a1 k2 k3,slice a2 k4 k5,slice a3 k6 k7] 58/\Hb w27 k1 #[string tok,iv stp,string arn,slice ca cn cc] 48/\Hb w27 s #[pK l,iv id,slice ra rn rc,map mo,slice qa qn qc,iv us] 116->Ev Zz (do
 Instr.mapUpdate 194 (map m1) (agg #[iv n18,iv n19,iv n20,iv n21,iv n22]) (bv true)
 pure undef) w27 fun y3 w28 =>
 y3=tuple #[]/\∃l4,KpL l4 w27 w28/\(af k26 l4/\af k25 l4/\af k13 l4/\af k8 l4/\af k1 l4/\af s l4)/\ar i64 (n17+1)/\(Hb w28 k26 #[iv n18,iv n19,iv n20,iv n21,iv n22] 143/\Hb w28 k25 #[slice a8 k21 k22,slice a9 k23 k24] 81/\Hb w28 k13 #[slice a4 k9 k10,slice a5 k11 k12] 189/\Hb w28 k8 #[slice a1 k2 k3,slice a2 k4 k5,slice a3 k6 k7] 58/\Hb w28 k1 #[string tok,iv stp,string arn,slice ca cn cc] 48/\Hb w28 s #[pK l,iv id,slice ra rn rc,map mo,slice qa qn qc,iv us] 116->P9 [iv (n17+1)] w28/\P10 [iv (n17+1)] w28<P10 [iv n17] w23))))/\(¬n17<(↑cn:Int)->Hb w23 k13 #[slice a4 k9 k10,slice a5 k11 k12] 189/\Hb w23 k8 #[slice a1 k2 k3,slice a2 k4 k5,slice a3 k6 k7] 58/\Hb w23 k1 #[string tok,iv stp,string arn,slice ca cn cc] 48/\Hb w23 s #[pK l,iv id,slice ra rn rc,map mo,slice qa qn qc,iv us] 116->R (returned (iv 0)) w23))))))/\((↑cn:Int)<(1:Int)->Hb w3 k1 #[string tok,iv stp,string arn,slice ca cn cc] 48/\Hb w3 s #[pK l,iv id,slice ra rn rc,map mo,slice qa qn qc,iv us] 116->R (returned (iv 9)) w3))))/\(stp<0->Hb w3 k1 #[string tok,iv stp,string arn,slice ca cn cc] 48/\Hb w3 s #[pK l,iv id,slice ra rn rc,map mo,slice qa qn qc,iv us] 116->R (returned (iv 3)) w3)))):Calls Zz 46 #[pK s,agg #[string tok,iv stp,string arn,slice ca cn cc]] w R :=
 dD (an:={ loops:=[⟨33,[139],[4,17,18]++rg 140 13,[]⟩,⟨25,[119],[4,13,14]++rg 120 14,[]⟩,⟨18,[83],[4,12,13,14]++rg 84 51,[]⟩,⟨13,[68],[9,10]++rg 69 11,[]⟩],all:=true }) (args:=[.a (.c (.loc 0 0)),.a (.agg [.v (.string tok),.v (iv stp),.v (.string arn),.v (.slice ca cn cc)])]) (rho:=[s]) (hp:=[(0,116,[.v (pK l),.v (iv id),.v (.slice ra rn rc),.v (.map mo),.v (.slice qa qn qc),.v (iv us)])]) aS Tryz.func46 (by kernel_rfl) rfl rfl hk (by simp) (by simpa using ab hk) rfl (by simp) h
theorem Cp{s:Nat}{tok:ByteArray}{stp:Int}{arn:ByteArray}{ca:Option Addr}{cn cc:Nat}
 (h :
 ∀k1,w.heap.size<=k1->∀w1,KpL [] w w1->Hb w1 k1 #[string tok,iv stp,string arn,slice ca cn cc] 48->ag Zz 45 #[pK s] w1 fun e1 w2 =>
 ∃n1,e1=returned (iv n1)/\KpL [] w1 w2/\(n1≠0->Hb w2 k1 #[string tok,iv stp,string arn,slice ca cn cc] 48->R (returned (tuple #[bv false,iv n1])) w2)/\(¬n1≠0->Hb w2 k1 #[string tok,iv stp,string arn,slice ca cn cc] 48->ag Zz 46 (#[pK s,agg #[string tok,iv stp,string arn,slice ca cn cc]]) w2 fun e2 w3 =>
 ∃n2,e2=returned (iv n2)/\KpL [] w2 w3/\(n2≠0->Hb w3 k1 #[string tok,iv stp,string arn,slice ca cn cc] 48->R (returned (tuple #[bv false,iv n2])) w3)/\(¬n2≠0->Hb w3 k1 #[string tok,iv stp,string arn,slice ca cn cc] 48->∃a1 k2 k3,ao w3 ((Addr.mk s 0 none).add 4) [slice a1 k2 k3]/\(Hb w3 k1 #[string tok,iv stp,string arn,slice ca cn cc] 48->ag Zz 47 (#[slice a1 k2 k3,func (Fn.func 48) #[] #[pK k1]]) w3 fun e3 w4 =>
 ∃b1,e3=returned (bv b1)/\KpL [] w3 w4/\(b1=true->Hb w4 k1 #[string tok,iv stp,string arn,slice ca cn cc] 48->R (returned (tuple #[bv false,iv 0])) w4)/\(b1=false->∃n3,ao w4 ((Addr.mk s 0 none).add 5) [iv n3]/\∃a2,ao w4 ((Addr.mk s 0 none).add 0) [pointer a2]/\∃d1,a2=some d1/\∃a3,ao w4 (d1.add 0) [pointer a3]/\∀w5,KpL [] w4 w5->Hb w5 k1 #[string tok,iv stp,string arn,slice ca cn cc] 48->ag Zz 49 (#[agg #[string tok,iv stp,string arn,slice ca cn cc]]) w5 fun e4 w6 =>
 ∃n4,e4=returned (iv n4)/\KpL [] w5 w6/\ar i64 (n3+n4)/\(Hb w6 k1 #[string tok,iv stp,string arn,slice ca cn cc] 48->ag Zz 50 #[pointer a3] w6 fun e5 w7 =>
 ∃n5,e5=returned (iv n5)/\KpL [] w6 w7/\(n5<n3+n4->Hb w7 k1 #[string tok,iv stp,string arn,slice ca cn cc] 48->R (returned (tuple #[bv false,iv 18])) w7)/\(¬n5<n3+n4->∃a4,ao w7 ((Addr.mk s 0 none).add 0) [pointer a4]/\∀w8,KpL [] w7 w8->Hb w8 k1 #[string tok,iv stp,string arn,slice ca cn cc] 48->ag Zz 53 (#[pK s,agg #[string tok,iv stp,string arn,slice ca cn cc]]) w8 fun e6 w9 =>
 ∃a5 k4 k5,e6=returned (slice a5 k4 k5)/\KpL [] w8 w9/\(Hb w9 k1 #[string tok,iv stp,string arn,slice ca cn cc] 48->ag Zz 52 #[pointer a4,int u8 2,slice a5 k4 k5] w9 fun e7 w10 =>
 ∃n6,e7=returned (iv n6)/\∃l1,KpL l1 w9 w10/\af k1 l1/\(Hb w10 k1 #[string tok,iv stp,string arn,slice ca cn cc] 48->ag Zz 51 #[pK s,iv n6] w10 fun e8 w11 =>
 ∃n7,e8=returned (iv n7)/\∃l2,KpL l2 w10 w11/\af k1 l2/\(n7≠0->Hb w11 k1 #[string tok,iv stp,string arn,slice ca cn cc] 48->R (returned (tuple #[bv false,iv n7])) w11)/\(¬n7≠0->Hb w11 k1 #[string tok,iv stp,string arn,slice ca cn cc] 48->ag Zz 54 (#[pK s,agg #[string tok,iv stp,string arn,slice ca cn cc]]) w11 fun e9 w12 =>
 e9=returned (tuple #[])/\∃l3,KpL l3 w11 w12/\af k1 l3/\(Hb w12 k1 #[string tok,iv stp,string arn,slice ca cn cc] 48->R (returned (tuple #[bv true,iv 0])) w12))))))))))):Calls Zz 13 #[pK s,agg #[string tok,iv stp,string arn,slice ca cn cc]] w R :=
 fz { muts:=[52,54,51],all:=true } [av (pK s),.a (.agg [.v (.string tok),.v (iv stp),.v (.string arn),.v (.slice ca cn cc)])] Tryz.func13 h
end
end Go.Vc
namespace Go.Vc
open Go Go.Proofs
def fN(bs:List bH)(n k:Int)(pl:List (Pl×dE))(c:aR):List (Pl×dE) :=
 if eE bs n (((bQ pl (be k c.at_)).map (·.batch)).getD 0)=true then dX pl (be k c.at_) ⟨n,c.vals⟩ else pl
def dp(bs:List bH)(n k:Int)(pl:List (Pl×dE))(l:List aR):List (Pl×dE):=l.foldl (fN bs n k) pl
def Bt.seen(b:Bt):bH:=⟨b.token,b.stamp⟩
def Bt.weight(b:Bt):Int:=2+3*b.changes.length
def bg.commit(st:bg)(b:Bt):bg :=
 { st with batches:=st.batches++[b.seen],places:=dp (st.batches++[b.seen]) (st.batches.length+1:Nat) (aI st.arrays b.array) st.places b.changes,use:=st.use+b.weight }
theorem ob{κ β:Type}[DecidableEq κ]{l:List (κ×β)}{k:κ}{v:β}{p:κ×β}(h:p∈dX l k v):p=(k,v)∨p∈l:=by
 unfold dX at h
 split at h
 ·obtain⟨q,hq,rfl⟩:=List.mem_map.1 h
  split
  ·exact .inl rfl
  ·exact .inr hq
 ·rcases List.mem_append.1 h with h|h
  ·exact .inr h
  ·simp at h;exact .inl h
theorem BY{bs:List bH}{n k:Int}{pl:List (Pl×dE)}{c:aR}{p:Pl×dE}(h:p∈fN bs n k pl c):p=(be k c.at_,⟨n,c.vals⟩)∨p∈pl:=by
 unfold fN at h
 split at h
 ·exact ob h
 ·exact .inr h
theorem js{bs:List bH}{n k:Int}:∀{l:List aR} {pl:List (Pl×dE)} {p:Pl×dE},p∈dp bs n k pl l->(∃c∈l,p=(be k c.at_,⟨n,c.vals⟩))∨p∈pl
 |[],_,_,h=>.inr h
 |c::r,pl,p,h=>by
  rcases js (l:=r) (pl:=fN bs n k pl c) h with ⟨c',hc',rfl⟩|h
  ·exact .inl ⟨c',by simp[hc'],rfl⟩
  ·rcases BY h with rfl|h
   ·exact .inl ⟨c,by simp,rfl⟩
   ·exact .inr h
theorem vY{k:Int}{at_:List Int}(hk:ar .i64 k)(h:∀x∈at_,ar .i64 x):(be k at_).ok:=by
 have z:ar .i64 0:=ae.2 (by omega)
 have g:∀i,ar .i64 (at_.getD i 0):=by
  intro i
  rw[List.getD_eq_getElem?_getD]
  cases hi:at_[i]? with
  |none=>exact z
  |some x=>exact h x (List.mem_of_getElem? hi)
 exact⟨hk,g 0,g 1,g 2,g 3⟩
theorem vg{pl:List (Pl×dE)}{p:Pl}{P:Int->Prop}(h0:P 0)(h:∀q∈pl,P q.2.batch):P (((bQ pl p).map (·.batch)).getD 0):=by
 cases hg:bQ pl p with
 |none=>exact h0
 |some x =>
  unfold bQ at hg
  obtain⟨q,hq,rfl⟩:=Option.map_eq_some_iff.1 hg
  exact h q (List.mem_of_find?_eq_some hq)
set_option maxHeartbeats 2000000 in
theorem nL{M Mc F:List Nat}{w:World}{s l d:Nat}{num nxt:Int}{st:bg}{b:Bt}{ca:Option Addr}{cn cc:Nat}(h:aK M w s l d num nxt st F)(hc:R (au aC) (F++Mc) w b.changes [.slice ca cn cc])
 (htok:b.token.size<=1000)(hst:ar .i64 b.stamp)(hcl:b.changes.length<=1000)(hch:∀c∈b.changes,c.at_.length<=4/\c.vals.length<=1000)(hbn:st.batches.length<=900000)(hbt:∀p∈st.places,0<=p.2.batch/\p.2.batch<=st.batches.length)
 (hk:ar .i64 (aI st.arrays b.array))(hu:0<=st.use/\st.use<=1000000):
 Calls Zz 54 #[pK s,.agg #[.string b.token,iv b.stamp,.string b.array,.slice ca cn cc]] w fun e w'=>e=.returned (.tuple #[])/\∃F',aK M w' s l d num nxt (st.commit b) F'/\ci F w F' w':=by
 have hmx:az=140737488355328:=rfl
 have hFl:=h.own_lt
 obtain⟨m,ra,rn,rc,qa,qn,qc,h,hl,rfl⟩:=h
 obtain⟨rfl,_,_⟩:=hc.sl_len
 have hq:=h.bat.len
 refine tT h.hs fun k1 hk1 k2 hk2 w1 hw1 hkn1=>?_
 have hsl:=ab h.hs
 have hll:=ab hl
 have hml:=h.pls.lt
 have hmn:=h.pls.mM
 have hb1:=h.bat.kp0 hw1
 have hseen:R ij (aj qa++(s::l::m::M)) w1 b.seen [.string b.token,iv b.stamp]:=⟨rfl,by show b.token.size<=az;omega,hst⟩
 refine aD A7 hb1 hkn1.1 hseen (by omega) fun qa' qc' w2 hQ=>⟨_,_,_,rfl,_,hQ.kp,⟨⟨fun hm=>by have:=(h.bat.blk_lt _ hm).1;omega⟩,⟨fun hm=>by have:=(h.bat.blk_lt _ hm).1;omega⟩,hb1.out (by simp)⟩,fun w3 hw3 hkn3=>?_⟩
 generalize hbs:st.batches++[b.seen]=bs at *
 have hlQ:=hQ.acc.len
 have hbsl:bs.length=st.batches.length+1:=by rw[<-hbs];simp
 have hO:ci (s::l::m::aj qa) w (s::l::m::aj qa') w3:=by
  refine⟨((hw1.mono (by simp)).trans (hQ.kp.mono (by simp_all))).trans (hw3.mono (by simp)),fun x hx=>?_⟩
  simp only[List.mem_cons]at hx ⊢
  rcases hx with rfl|rfl|rfl|hx
  ·simp
  ·simp
  ·simp
  ·rcases hQ.own x hx with hx|hx
   ·simp[hx]
   ·exact .inr (Nat.le_trans hw1.size hx)
 have hKq:KpL (s::aj qa) w w3:=((hw1.mono (by simp)).trans (hQ.kp.mono (by simp_all))).trans (hw3.mono (by simp))
 have hqnew:∀x∈aj qa',x∈aj qa∨w.heap.size<=x:=fun x hx=>(hQ.own x hx).imp id (fun hge=>Nat.le_trans hw1.size hge)
 have hsub:∀x∈s::aj qa,x∈s::l::m::(aj qa++M):=by intro x hx;simp at hx;rcases hx with rfl|hx<;>simp[*]
 have hlq:l∉s::aj qa:=by
  intro hm
  rcases List.mem_cons.1 hm with e|hm
  ·exact h.sl e.symm
  ·exact(h.bat.blk_lt l hm).2 (by simp)
 have h3:fy M w3 s l { st with batches:=bs } m ra rn rc qa' (qn+1) qc':=by
  refine⟨hkn3.2.2,h.arr.step hKq hsub ?_,h.pls.step hKq (by intro x hx;simp at hx;rcases hx with rfl|hx<;>simp[*]) ?_,hQ.acc.kp hw3 (by simp),h.sl,h.sM,h.lM,h.idI,h.useI,h.keys⟩
  ·intro x hx
   simp only[List.mem_cons,List.mem_append]at hx ⊢
   rcases hx with hx|hx|hx|hx|hx
   ·simp[hx]
   ·simp[hx]
   ·simp[hx]
   ·exact(hqnew x hx).imp (fun h=>by simp[h]) id
   ·simp[hx]
  ·intro x hx
   simp only[List.mem_cons,List.mem_append]at hx ⊢
   rcases hx with hx|hx|hx|hx
   ·simp[hx]
   ·simp[hx]
   ·exact(hqnew x hx).imp (fun h=>by simp[h]) id
   ·simp[hx]
 have hl3:aM w3 l d num nxt:=hl.keep hKq hlq
 have hc3:R (au aC) (s::l::m::aj qa'++Mc) w3 b.changes [.slice ca b.changes.length cc]:=hO.data hc
 have hqn:qn+1=bs.length:=by rw[h3.bat.len]
 refine⟨(qG ⟨m,ra,rn,rc,qa',qn+1,qc',h3,hl3,rfl⟩ b.array).mono ?_⟩
 rintro e w4 ⟨rfl,hw4⟩
 have hfind:aI ({ st with batches:=bs }:bg).arrays b.array=aI st.arrays b.array:=rfl
 rw[hfind]
 generalize hkk:aI st.arrays b.array=kk at *
 have hMlt:∀{w':World},KpL [] w3 w'->True:=fun _=>trivial
 refine⟨_,rfl,hw4,fun vs w'=>∃(i:Nat) (pl:List (Pl×dE)),vs=[iv (i:Int)]/\i<=b.changes.length/\pl=dp bs (bs.length:Nat) kk st.places (b.changes.take i)/\KpL [m] w3 w'/\k1<w'.heap.size/\k2<w'.heap.size/\fy M w' s l { st with batches:=bs,places:=pl } m ra rn rc qa' (qn+1) qc',
  fun vs _=>match vs with|[.int _ i]=>b.changes.length - i.toNat|_=>0,fun hkn4=>⟨0,st.places,rfl,by omega,rfl,hw4.mono (by simp),ab hkn4.2.1,ab hkn4.1,h3.step hw4 (by simp) (fun x hx=>⟨.inl hx,Nat.lt_of_lt_of_le (h3.mlt x hx) hw4.size⟩) (ab hl3)⟩,?_⟩
 rintro i' w5 ⟨i,pl,hv,hi,hpl,hK5,hk1l,hk2l,h5⟩
 obtain rfl:=v1 hv
 have hl5:aM w5 l d num nxt:=hl3.keep hK5 (by simp;rintro rfl;exact hmn (by simp))
 have hplm:∀q∈pl,0<=q.2.batch/\q.2.batch<=bs.length:=by
  intro q hq'
  rw[hpl]at hq'
  rcases js hq' with ⟨c,_,rfl⟩|hq'
  ·simp
  ·have:=hbt q hq';omega
 constructor
 ·intro hlt
  have gi:i<b.changes.length:=by omega
  have hc5:R (au aC) (s::l::m::(aj qa'++Mc)) w5 b.changes [.slice ca b.changes.length cc]:=(hc3.kp hK5 (by simp))
  obtain⟨ad,cs,rfl,hv1,hld1,_,_⟩:=hc5.sl_get gi
  have hch':=hch b.changes[i] (List.getElem_mem gi)
  obtain⟨a6,p6,q6,a7,p7,q7,rfl,hx1,hx2⟩:=hv1.cell
  have hstep:dp bs (bs.length:Nat) kk st.places (b.changes.take (i+1))=fN bs (bs.length:Nat) kk pl b.changes[i]:=by
   rw[<-List.take_append_getElem gi]
   unfold dp
   rw[List.foldl_append,hpl]
   rfl
  generalize b.changes[i]=c at *
  have dec:b.changes.length - ((i:Int)+1).toNat<b.changes.length - (i:Int).toNat:=by omega
  refine⟨ad,rfl,by omega,hlt,fun hkn5=>⟨_,_,_,_,_,_,hld1,fun k9 hk9 w6 hw6 hkn6=>⟨(rj (x:=kk) (hx1.kp0 hw6) hch'.1).mono ?_⟩⟩⟩
  rintro e w7 ⟨rfl,hw7⟩
  have hpok:(be kk c.at_).ok:=vY hk hx1.ints
  generalize hpp:be kk c.at_=p at *
  refine⟨p.a,p.p0,p.p1,p.p2,p.p3,rfl,hw7,fun k10 hk10 w8 hw8 hkn8=>?_⟩
  have hk58:=(hw6.trans hw7).trans hw8
  have s58:=hk58.size
  have s57:=(hw6.trans hw7).size
  have h8:=h5.step hk58 (by simp) (fun x hx=>⟨.inl hx,Nat.lt_of_lt_of_le (h5.mlt x hx) hk58.size⟩) (ab hl5)
  have hl8:aM w8 l d num nxt:=hl5.keep hk58 (by simp)
  have cont:∀(bb:Int) (a4:Option Addr) (k11 k12:Nat),bb=((bQ pl p).map (·.batch)).getD 0->ar .i64 bb->
   ∃n8,∃a4' k11' k12',Value.agg #[iv bb,.slice a4 k11 k12]=.agg #[iv n8,.slice a4' k11' k12']/\n8=bb:=fun bb a4 k11 k12 _ _=>⟨_,_,_,_,rfl,rfl⟩
  have hbb:0<=((bQ pl p).map (·.batch)).getD 0/\((bQ pl p).map (·.batch)).getD 0<=bs.length:=vg (P:=fun x=>0<=x/\x<=bs.length) (by simp) hplm
  have after:∀(bb:Int),bb=((bQ pl p).map (·.batch)).getD 0->ag Zz 115 #[pK s,iv ((qn+1:Nat):Int),iv bb] w8 (aA (.bool (eE bs (bs.length:Nat) bb)) w8):=by
   intro bb hb
   subst hb
   have:=Aq (a:=((qn+1:Nat):Int)) (b:=((bQ pl p).map (·.batch)).getD 0) ⟨m,ra,rn,rc,qa',qn+1,qc',h8,hl8,rfl⟩ (by show bs.length<=_;omega) (by show 1<=_/\_<=((bs.length:Nat):Int);omega) hbb
   rw[hqn]at this ⊢
   exact⟨this⟩
  have hputP:fN bs (bs.length:Nat) kk pl c=if eE bs (bs.length:Nat) (((bQ pl p).map (·.batch)).getD 0)=true then dX pl p ⟨(bs.length:Nat),c.vals⟩ else pl:=by unfold fN;rw[hpp]
  have after':∀(bb:Int),bb=((bQ pl p).map (·.batch)).getD 0->ag Zz 115 #[pK s,iv ((qn+1:Nat):Int),iv bb] w8 (aA (.bool (eE bs (bs.length:Nat) (((bQ pl p).map (·.batch)).getD 0))) w8):=fun bb hb=>by
   have:=after bb hb
   rw[hb]at this ⊢
   exact this
  generalize hB:eE bs (bs.length:Nat) (((bQ pl p).map (·.batch)).getD 0)=B at *
  refine jp (enc:=Pl.enc) mH qH Eo h8.pls p false (fun x cs hg hR=>?_) (fun hg=>?_)
  ·obtain⟨va,vn,vc,rfl,hbi,_⟩:=hR.sta
   refine⟨_,_,_,_,rfl,[],KpL.refl _ _,⟨⟨by simp⟩,⟨by simp⟩,⟨by simp⟩,⟨by simp⟩,⟨by simp⟩⟩,fun _=>⟨(after' x.batch (by rw[hg];rfl)).calls.mono ?_⟩⟩
   rintro e w10 ⟨rfl,hw10⟩
   refine⟨_,rfl,hw10,?_⟩
   refine⟨fun hbt' w11 hw11 _=>?_,fun hbf=>⟨ae.2 (by omega),fun _=>⟨⟨i+1,pl,rfl,by omega,?_,hK5.trans ((hk58.trans hw10).mono (by simp)),?_,?_,h8.step hw10 (by simp) (fun x hx=>⟨.inl hx,Nat.lt_of_lt_of_le (h8.mlt x hx) hw10.size⟩) (ab hl8)⟩,dec⟩⟩⟩
   ·have hk811:=hw10.trans hw11
    have h11:=h8.step hk811 (by simp) (fun x hx=>⟨.inl hx,Nat.lt_of_lt_of_le (h8.mlt x hx) hk811.size⟩) (ab hl8)
    have hl11:=hl8.keep hk811 (by simp)
    have hmx':∀x∈m::s::l::(aj qa'++M),x<w11.heap.size:=by
     intro x hx
     have g:=h11.own_lt hl11
     simp only[List.mem_cons,List.mem_append]at hx
     rcases hx with rfl|rfl|rfl|hx|hx
     ·exact(g x (by simp)).1
     ·exact(g x (by simp)).1
     ·exact(g x (by simp)).1
     ·exact(g x (by simp[hx])).1
     ·exact h11.mlt x hx
    refine⟨(ie (M:=m::s::l::(aj qa'++M)) hmx' (by have:=hx2.sl_len';omega) ((hx2.kp0 hk58).kp0 hk811)).mono ?_⟩
    rintro e w12 ⟨a5,n5,c5,rfl,hV⟩
    have lV:=hV.acc.len
    have hRv:=hV.acc.done (by omega)
    have hk812:=hk811.trans hV.kpn
    have h12:=h8.step hk812 (by simp) (fun x hx=>⟨.inl hx,Nat.lt_of_lt_of_le (h8.mlt x hx) hk812.size⟩) (ab hl8)
    have hsta:R jz (m::s::l::(aj qa'++M)) w12 ⟨(bs.length:Nat),c.vals⟩ [iv ((bs.length:Nat):Int),.slice a5 n5 c5]:=R.mkSta (ae.2 (by simp;omega)) hRv
    have hml':m<w5.heap.size:=h5.pls.lt
    have hmm:=h5.pls.mM
    refine⟨_,_,_,rfl,hV.kpn,fun _=>?_⟩
    rw[hqn]at h12 ⊢
    refine dv (enc:=Pl.enc) (v:=⟨(bs.length:Nat),c.vals⟩) mH qH h12.pls p hsta fun w13 hm13 hk13=>⟨rfl,[m],hk13,⟨⟨by simp;omega⟩,⟨by simp;omega⟩,⟨by simp;omega⟩,⟨by simp;omega⟩,⟨by simp;rintro rfl;exact hmm (by simp)⟩⟩,ae.2 (by omega),fun hkn13=>⟨⟨i+1,dX pl p ⟨(bs.length:Nat),c.vals⟩,rfl,by omega,?_,(hK5.trans ((hk58.trans hk812).mono (by simp))).trans hk13,ab hkn13.2.2.2.1,ab hkn13.2.2.1,?_⟩,dec⟩⟩
    ·rw[hstep,hputP,if_pos hbt']
    ·have hne:s≠m:=by rintro rfl;exact hmm (by simp)
     have hlm:l≠m:=by rintro rfl;exact hmm (by simp)
     refine⟨(hk13.blk s (ab h12.hs) (by simpa using hne)).trans h12.hs,h12.arr.kp hk13 (by simp),hm13,h12.bat.kp hk13 (by simp),h.sl,h.sM,h.lM,h.idI,h.useI,fun q hq'=>?_⟩
     rcases ob hq' with rfl|hq'
     ·exact hpok
     ·exact h5.keys q hq'
   ·rw[hstep,hputP,if_neg (by simp[hbf])]
   ·have:=hw10.size;omega
   ·have:=hw10.size;omega
  ·refine⟨_,_,_,_,rfl,[],KpL.refl _ _,⟨⟨by simp⟩,⟨by simp⟩,⟨by simp⟩,⟨by simp⟩,⟨by simp⟩⟩,fun _=>⟨(after' 0 (by rw[hg];rfl)).calls.mono ?_⟩⟩
   rintro e w10 ⟨rfl,hw10⟩
   refine⟨_,rfl,hw10,?_⟩
   refine⟨fun hbt' w11 hw11 _=>?_,fun hbf=>⟨ae.2 (by omega),fun _=>⟨⟨i+1,pl,rfl,by omega,?_,hK5.trans ((hk58.trans hw10).mono (by simp)),?_,?_,h8.step hw10 (by simp) (fun x hx=>⟨.inl hx,Nat.lt_of_lt_of_le (h8.mlt x hx) hw10.size⟩) (ab hl8)⟩,dec⟩⟩⟩
   ·have hk811:=hw10.trans hw11
    have h11:=h8.step hk811 (by simp) (fun x hx=>⟨.inl hx,Nat.lt_of_lt_of_le (h8.mlt x hx) hk811.size⟩) (ab hl8)
    have hl11:=hl8.keep hk811 (by simp)
    have hmx':∀x∈m::s::l::(aj qa'++M),x<w11.heap.size:=by
     intro x hx
     have g:=h11.own_lt hl11
     simp only[List.mem_cons,List.mem_append]at hx
     rcases hx with rfl|rfl|rfl|hx|hx
     ·exact(g x (by simp)).1
     ·exact(g x (by simp)).1
     ·exact(g x (by simp)).1
     ·exact(g x (by simp[hx])).1
     ·exact h11.mlt x hx
    refine⟨(ie (M:=m::s::l::(aj qa'++M)) hmx' (by have:=hx2.sl_len';omega) ((hx2.kp0 hk58).kp0 hk811)).mono ?_⟩
    rintro e w12 ⟨a5,n5,c5,rfl,hV⟩
    have lV:=hV.acc.len
    have hRv:=hV.acc.done (by omega)
    have hk812:=hk811.trans hV.kpn
    have h12:=h8.step hk812 (by simp) (fun x hx=>⟨.inl hx,Nat.lt_of_lt_of_le (h8.mlt x hx) hk812.size⟩) (ab hl8)
    have hsta:R jz (m::s::l::(aj qa'++M)) w12 ⟨(bs.length:Nat),c.vals⟩ [iv ((bs.length:Nat):Int),.slice a5 n5 c5]:=R.mkSta (ae.2 (by simp;omega)) hRv
    have hml':m<w5.heap.size:=h5.pls.lt
    have hmm:=h5.pls.mM
    refine⟨_,_,_,rfl,hV.kpn,fun _=>?_⟩
    rw[hqn]at h12 ⊢
    refine dv (enc:=Pl.enc) (v:=⟨(bs.length:Nat),c.vals⟩) mH qH h12.pls p hsta fun w13 hm13 hk13=>⟨rfl,[m],hk13,⟨⟨by simp;omega⟩,⟨by simp;omega⟩,⟨by simp;omega⟩,⟨by simp;omega⟩,⟨by simp;rintro rfl;exact hmm (by simp)⟩⟩,ae.2 (by omega),fun hkn13=>⟨⟨i+1,dX pl p ⟨(bs.length:Nat),c.vals⟩,rfl,by omega,?_,(hK5.trans ((hk58.trans hk812).mono (by simp))).trans hk13,ab hkn13.2.2.2.1,ab hkn13.2.2.1,?_⟩,dec⟩⟩
    ·rw[hstep,hputP,if_pos hbt']
    ·have hne:s≠m:=by rintro rfl;exact hmm (by simp)
     have hlm:l≠m:=by rintro rfl;exact hmm (by simp)
     refine⟨(hk13.blk s (ab h12.hs) (by simpa using hne)).trans h12.hs,h12.arr.kp hk13 (by simp),hm13,h12.bat.kp hk13 (by simp),h.sl,h.sM,h.lM,h.idI,h.useI,fun q hq'=>?_⟩
     rcases ob hq' with rfl|hq'
     ·exact hpok
     ·exact h5.keys q hq'
   ·rw[hstep,hputP,if_neg (by simp[hbf])]
   ·have:=hw10.size;omega
   ·have:=hw10.size;omega
 ·intro hge w14 hw14 hkn14
  have hie:i=b.changes.length:=by omega
  subst hie
  rw[List.take_length]at hpl
  refine⟨(px w14 b.token b.array b.stamp ca b.changes.length cc (by omega)).mono ?_⟩
  rintro e w15 ⟨rfl,hw15⟩
  refine⟨_,rfl,hw15,ae.2 (by omega),fun w16 hw16 hkn16=>⟨rfl,s::l::m::aj qa',⟨m,ra,rn,rc,qa',qn+1,qc',?_,?_,rfl⟩,?_⟩⟩
  ·have hk515:=hw14.trans hw15
   have h15:=h5.step hk515 (by simp) (fun x hx=>⟨.inl hx,Nat.lt_of_lt_of_le (h5.mlt x hx) hk515.size⟩) (ab hl5)
   have e1:st.commit b={ st with batches:=bs,places:=pl,use:=st.use+(2+3*(b.changes.length:Int)) }:=by
    unfold bg.commit Bt.weight
    rw[hbs,hkk,hpl,hbsl]
   rw[e1]
   exact⟨hkn16.2.2,h15.arr.kp hw16 (by simp),h15.pls.step hw16 (by simp) (fun x hx=>.inl hx),h15.bat.kp hw16 (by simp),h.sl,h.sM,h.lM,h.idI,ae.2 (by simp;omega),h15.keys⟩
  ·have hk515:=hw14.trans hw15
   exact(hl5.keep hk515 (by simp)).keep hw16 (by simpa using h.sl.symm)
  ·exact hO.trans ⟨((hK5.mono (by simp)).trans ((hw14.trans hw15).mono (by simp))).trans (hw16.mono (by simp)),fun x hx=>.inl hx⟩
end Go.Vc
namespace Go.Vc
open Go Go.Proofs
theorem oY{κ:Type}[DecidableEq κ](met:List κ)(s:κ):bQ (met.map fun s=>(s,true)) s=if s∈met then some true else none:=by
 unfold bQ
 by_cases h:s∈met
 ·rw[if_pos h]
  have:(met.map fun s=>(s,true)).find? (fun p=>decide (p.1=s))=some (s,true):=by
   induction met with
   |nil=>simp at h
   |cons x r ih =>
    rw[List.map_cons,List.find?_cons]
    by_cases hx:x=s
    ·simp[hx]
    ·simp only[hx,decide_false]
     exact ih (by simpa[Ne.symm hx]using h)
  rw[this];rfl
 ·rw[if_neg h]
  have:(met.map fun s=>(s,true)).find? (fun p=>decide (p.1=s))=none:=by
   rw[List.find?_eq_none]
   intro p hp
   simp only[List.mem_map]at hp
   obtain⟨x,hx,rfl⟩:=hp
   simp only[decide_eq_true_eq]
   rintro rfl
   exact h hx
  rw[this];rfl
theorem yj{κ:Type}[DecidableEq κ]{met:List κ}{s:κ}(hs:s∉met):dX (met.map fun s=>(s,true)) s true=(met++[s]).map fun s=>(s,true):=by
 unfold dX
 rw[if_neg]
 ·simp
 ·simp only[List.any_map,List.any_eq_true,not_exists]
  intro x hx
  simp at hx
  exact hs (hx.2▸hx.1)
def Cx(M:List Nat)(w:World)(m:Nat)(met:List Pl):Prop:=cZ Pl.enc tB M w m (met.map fun s=>(s,true))
theorem E5:Tryz.prog.underlying 194=some (.map 143 4):=by kernel_rfl
theorem Cz{M:List Nat}{w:World}{m:Nat}{met:List Pl}(h:Cx M w m met)(s:Pl){Q:Value->World->Prop}(hq:Q (.bool (decide (s∈met))) w):
 Ev Zz (Instr.lookup 194 (.map (some m)) s.enc false) w Q:=by
 refine jp (enc:=Pl.enc) mH E5 z4 h s false (fun x cs hg hR=>?_) (fun hg=>?_)
 ·rw[oY]at hg
  split at hg
  ·rename_i hm
   simp only[Option.some.injEq]at hg
   subst hg
   have:cs=[.bool true]:=hR
   subst this
   rw[decide_eq_true hm]at hq
   exact hq
  ·cases hg
 ·rw[oY]at hg
  split at hg
  ·cases hg
  ·rename_i hm
   rw[decide_eq_false hm]at hq
   exact hq
theorem z7{M:List Nat}{w:World}{m:Nat}{met:List Pl}(h:Cx M w m met){s:Pl}(hs:s∉met){Q:Value->World->Prop}(hq:∀w',Cx M w' m (met++[s])->KpL [m] w w'->Q undef w'):
 Ev Zz (do Instr.mapUpdate 194 (.map (some m)) s.enc (.bool true);pure undef) w Q:=by
 refine dv (enc:=Pl.enc) (cs:=[.bool true]) (v:=true) mH E5 h s rfl fun w' hm hk=>hq w' ?_ hk
 rw[yj hs]at hm
 exact hm
theorem bI.setI{k:IntKind}{M:List Nat}{w:World}{xs:List Int}{ad:Addr}{n c:Nat}(h:bI (tI k) M w xs (some ad) n c){i:Nat}(hi:i<xs.length){x:Int}(hx:ar k x):
 (∃l,ao w (ad.add (i*1)) l/\l.length=1)/\aq w (ad.add (i*1)) 1/\(ad.add (i*1)).block=ad.block/\bI (tI k) M (bL w (ad.add (i*1)) [.int k x] 0) (xs.set i x) (some ad) n c/\KpL [ad.block] w (bL w (ad.add (i*1)) [.int k x] 0):=by
 obtain⟨b,arr,T,rfl,hbM,hb,hsz,hel⟩:=h.at_ ad rfl
 have hn:=h.len
 have hcap:=h.cap
 have hz:(tI k).sz=1:=rfl
 rw[hz,Nat.mul_one]at hsz
 have hb':w.heap[b]?=some (.cells arr.toList.toArray T (0,0)):=by simpa using hb
 obtain⟨s1,s2,s3,s4,s5⟩:=zq (i:=i) (v:=.int k x) hb' (by simp;omega)
 refine⟨s1,s2,s3,⟨by simp[hn],hcap,fun y hy=>Nat.lt_of_lt_of_le (h.mlt y hy) s5.size,fun hc=>(by cases hc),fun ad' had=>?_⟩,s5⟩
 simp only[Option.some.injEq]at had
 subst had
 refine⟨b,_,T,rfl,hbM,s4,by simp[hsz,hz],fun j y hy=>⟨[.int k y],?_,fun t v hv=>?_⟩⟩
 ·rw[List.getElem?_set]at hy
  split at hy
  ·simp at hy;subst hy;exact⟨rfl,hx⟩
  ·obtain⟨cs,⟨_,hin⟩,_⟩:=hel j y hy
   exact⟨rfl,hin⟩
 ·cases t with
  |succ t=>simp at hv
  |zero =>
   simp at hv
   subst hv
   rw[hz]
   simp only[List.toList_toArray,Nat.zero_add,Nat.mul_one,Nat.add_zero]
   rw[List.getElem?_set]
   rw[List.getElem?_set]at hy
   split at hy
   ·rename_i hij
    subst hij
    rw[if_pos rfl]
    simp at hy;subst hy
    rw[if_pos (by simp;omega)]
   ·rename_i hij
    rw[if_neg hij]
    obtain⟨cs,⟨rfl,_⟩,h3⟩:=hel j y hy
    have:=h3 0 _ rfl
    rw[hz]at this
    simpa using this
def bF(ds:List dI)(ats:List cI)(c:aR):Int :=
 if c.at_.length≠ds.length∨(c.vals.length≠0/\c.vals.length≠ats.length) then 13 else if lU ds c.at_=false then 3 else if cH ats c.vals=false then 12 else 0
def cr(ds:List dI)(ats:List cI):List aR->Int
 |[]=>0
 |c::r=>if bF ds ats c≠0 then bF ds ats c else cr ds ats r
def lQ(k:Int):List Pl->List aR->Int
 |_,[]=>0
 |met,c::r=>if be k c.at_∈met then 5 else lQ k (met++[be k c.at_]) r
def bg.checkE(st:bg)(b:Bt):Int :=
 if bx b.token=false then 11 else if b.stamp<0∨1099511627776<b.stamp then 3 else match st.arrays[(aI st.arrays b.array).toNat]? with
 |none=>4
 |some x=>if aI st.arrays b.array<0 then 4 else if b.changes.length<1∨16<b.changes.length then 9 else if cr x.arr.dims x.arr.attrs b.changes≠0 then cr x.arr.dims x.arr.attrs b.changes else lQ (aI st.arrays b.array) [] b.changes
theorem lB:∀(ds:List dI) (xs:List Int),uI (ds.map (·.lo)) (ds.map (·.last)) xs=lU ds xs
 |[],[]=>rfl
 |[],_::_=>rfl
 |_::_,[]=>rfl
 |d::ds,x::xs=>by
  simp only[List.map_cons,uI,lU,lB ds xs]
  have:decide (1073741825<=d.last)=false:=by rw[decide_eq_false_iff_not];unfold dI.last;omega
  rw[this,Bool.or_false]
theorem sN{α:Type}{p:α->Bool}:∀(l:List α) (i:Int),0<=i->idxOf p l i<i+l.length
 |[],i,h=>by simp[idxOf];omega
 |x::r,i,h=>by
  unfold idxOf
  split
  ·simp only[List.length_cons];omega
  ·have:=sN (p:=p) r (i+1) (by omega)
   simp only[List.length_cons];omega
theorem gE(l:List Nm)(nm:ByteArray):aI l nm<l.length:=by have:=sN (p:=fun x=>decide (x.name=nm)) l 0 (by omega);unfold aI;omega
theorem sg{α:Type}{p:α->Bool}:∀(l:List α) (i:Int),0<=i->-1<=idxOf p l i
 |[],i,h=>by simp[idxOf]
 |x::r,i,h=>by
  unfold idxOf
  split
  ·omega
  ·exact sg r (i+1) (by omega)
theorem zx(l:List Nm)(nm:ByteArray): -1<=aI l nm:=sg l 0 (by omega)
end Go.Vc
namespace Go.Vc
open Go Go.Proofs
theorem Cs{α:Type}{l h:List α}{i:Nat}(h1:i<l.length)(h2:i<h.length):(l.take i++h.drop i).set i l[i]=l.take (i+1)++h.drop (i+1):=by
 have:i - (l.take i).length=0:=by simp;omega
 rw[List.set_append,if_neg (by simp;omega),List.drop_eq_getElem_cons h2,this,List.set_cons_zero,List.take_succ_eq_append_getElem h1,List.append_assoc]
 rfl
theorem CM{α:Type}{l h:List α}{i:Nat}(h1:i<=l.length)(h2:i<h.length):(l.take i++h.drop i)[i]?=some h[i]:=by
 rw[List.getElem?_append_right (by simp;omega),List.getElem?_drop]
 have:i+(i - (l.take i).length)=i:=by simp;omega
 rw[this,List.getElem?_eq_getElem h2]
theorem g9{ds:List dI}{ats:List cI}:∀{l:List aR},cr ds ats l=0->∀c∈l,bF ds ats c=0
 |[],_,_,hc=>by simp at hc
 |x::r,h,c,hc=>by
  rw[cr]at h
  split at h
  ·rename_i hne;exact absurd h hne
  ·rename_i hz
   rcases List.mem_cons.1 hc with rfl|hc
   ·omega
   ·exact g9 h c hc
theorem tG{ds:List dI}{ats:List cI}{c:aR}(h:bF ds ats c=0):c.at_.length=ds.length:=by
 unfold bF at h
 split at h
 ·cases h
 ·rename_i hn;simp only[not_or,Decidable.not_not]at hn;exact hn.1
theorem dN{ds:List dI}(hz:(bX [] ds).1=0):1<=ds.length/\ds.length<=4:=by
 unfold bX at hz
 split at hz
 ·cases hz
 ·omega
set_option maxHeartbeats 4000000 in
theorem yX{M Mc F:List Nat}{w:World}{s l d:Nat}{num nxt:Int}{st:bg}{b:Bt}{ca:Option Addr}{cn cc:Nat}(h:aK M w s l d num nxt st F)(hc:R (au aC) Mc w b.changes [.slice ca cn cc])
 (hv:∀x∈st.arrays,(bX [] x.arr.dims).1=0):
 Calls Zz 46 #[pK s,.agg #[.string b.token,iv b.stamp,.string b.array,.slice ca cn cc]] w (aA (iv (st.checkE b)) w):=by
 have hmx:az=140737488355328:=rfl
 obtain⟨m,ra,rn,rc,qa,qn,qc,h,hl,rfl⟩:=h
 obtain⟨rfl,hcn1,hcn2⟩:=hc.sl_len
 obtain⟨hrn,_,hrn2⟩:=h.arr.sl_len
 subst hrn
 have hsl:=ab h.hs
 have e0:st.checkE b=st.checkE b:=rfl
 conv at e0=>rhs;unfold bg.checkE
 refine yh h.hs fun k1 hk1 w1 hw1 hkn1=>⟨(qG (M:=M) ⟨m,ra,_,rc,qa,qn,qc,h.step hw1 (by simp) (fun x hx=>⟨.inl hx,Nat.lt_of_lt_of_le (h.mlt x hx) hw1.size⟩) (ab hl),hl.keep hw1 (by simp),rfl⟩ b.array).mono ?_⟩
 rintro e w2 ⟨rfl,hw2⟩
 have hk1l:=ab hkn1.1
 have hflt:=gE st.arrays b.array
 have hfge:=zx st.arrays b.array
 generalize hkk:aI st.arrays b.array=kk at *
 refine⟨_,rfl,hw2,fun hkn2=>⟨(m9 _ w2).mono ?_⟩⟩
 rintro e w3 ⟨rfl,hw3⟩
 have hw03:KpL [] w w3:=(hw1.trans hw2).trans hw3
 refine⟨_,rfl,hw3,fun hb _=>⟨by rw[e0,if_pos (gU hb)],hw03⟩,fun hb=>?_⟩
 rw[if_neg (by rw[eP hb];simp)]at e0
 refine⟨fun hs1=>⟨fun hs2 _=>⟨by rw[e0,if_pos (.inr hs2)],hw03⟩,fun hs2=>?_⟩,fun hs1 _=>⟨by rw[e0,if_pos (.inl hs1)],hw03⟩⟩
 rw[if_neg (by omega)]at e0
 refine⟨fun hk0 _=>⟨?_,hw03⟩,fun hk0=>?_⟩
 ·rw[e0]
  split
  ·rfl
  ·rw[if_pos hk0]
 have gk:kk.toNat<st.arrays.length:=by omega
 rw[List.getElem?_eq_getElem gk]at e0
 have hvx:=hv st.arrays[kk.toNat] (List.getElem_mem gk)
 obtain⟨ad,cs,rfl,hv1,_,_,_,hpt⟩:=h.arr.sl_get2 gk
 obtain⟨b1,p1,q1,b2,p2,q2,b3,p3,q3,rfl,hsz,hx1,hx2,hx3⟩:=hv1.nm
 have hldv:=hpt 1 [.slice b1 p1 q1,.slice b2 p2 q2,.slice b3 p3 q3] rfl
 dsimp only at e0
 generalize st.arrays[kk.toNat].arr=x at *
 rw[if_neg hk0]at e0
 refine⟨fun hl1=>⟨fun hl2 _=>⟨by rw[e0,if_pos (by omega)],hw03⟩,fun hl2=>?_⟩,fun hl1 _=>⟨by rw[e0,if_pos (by omega)],hw03⟩⟩
 rw[if_neg (by omega)]at e0
 refine⟨ad,rfl,by omega,by omega,fun hkn3=>⟨_,_,_,_,_,_,_,_,_,hldv.kp hw03,fun k8 hk8 w4 hw4 hkn4=>?_⟩⟩
 have hk04:=hw03.trans hw4
 have hK4:∀y∈[k8,k1,s],y<w4.heap.size:=by
  intro y hy
  simp only[List.mem_cons,List.not_mem_nil,or_false]at hy
  rcases hy with rfl|rfl|rfl
  ·exact ab hkn4.1
  ·exact ab hkn4.2.1
  ·exact ab hkn4.2.2
 refine⟨(Bn hK4 (hx1.kp0 hk04) hvx).mono ?_⟩
 rintro e w5 ⟨a4,k9,k10,a5,k11,k12,rfl,hw5,hnew,hA5⟩
 have hds:=dN hvx
 have hk05:=hk04.trans hw5
 have s05:=hk05.size
 have s45:=hw5.size
 have hhi5:=fun y hy=>(hA5.h.blk_lt y hy).1
 have e11:k11=x.dims.length:=by have:=hA5.h.len;simpa using this
 have hd6:=fun w' (hk:KpL [] w w')=>hx1.kp0 hk
 refine⟨_,_,_,_,_,_,_,rfl,hw5,fun k13 hk13=>⟨fun vs w'=>∃i:Nat,vs=[iv (i:Int)]/\i<=x.dims.length/\KpL [] w w'/\gc [k8,k1,s] w' (x.dims.map (·.lo)) a4 k9 k10 ((x.dims.map (·.last)).take i++(x.dims.map (·.hi)).drop i) a5 k11 k12,
  fun vs _=>match vs with|[.int _ i]=>x.dims.length - i.toNat|_=>0,fun w6 hw6 _=>⟨0,rfl,by omega,hk05.trans hw6,by simpa using hA5.kp0 hw6⟩,?_⟩⟩
 rintro n3 w7 ⟨i,hvs,hi,hk07,hA7⟩
 simp only[List.cons.injEq,Value.int.injEq,true_and,and_true]at hvs
 subst hvs
 constructor
 ·intro hlt
  have gi:i<x.dims.length:=by omega
  have gl:i<((x.dims.map (·.last)).take i++(x.dims.map (·.hi)).drop i).length:=by simp;omega
  have hRh:=hA7.h.done (by omega)
  obtain⟨ad5,cs5,rfl,hv5,hld5,hb5,hb5'⟩:=hRh.sl_get gl
  have hgv:((x.dims.map (·.last)).take i++(x.dims.map (·.hi)).drop i)[i]=x.dims[i].hi:=by
   have:=CM (l:=x.dims.map (·.last)) (h:=x.dims.map (·.hi)) (i:=i) (by simp;omega) (by simpa using gi)
   rw[List.getElem?_eq_getElem gl]at this
   simpa using this
  rw[hgv]at hv5
  obtain⟨rfl,hin5⟩:=hv5.intD
  have hin':ar .i64 x.dims[i].last:=by rw[ae]at hin5 ⊢;unfold dI.last;omega
  obtain⟨t1,t2,t3,t4,t5⟩:=hA7.h.setI gl hin'
  have hset:((x.dims.map (·.last)).take i++(x.dims.map (·.hi)).drop i).set i x.dims[i].last=(x.dims.map (·.last)).take (i+1)++(x.dims.map (·.hi)).drop (i+1):=by
   have:=Cs (l:=x.dims.map (·.last)) (h:=x.dims.map (·.hi)) (i:=i) (by simpa using gi) (by simpa using gi)
   rw[<-this];simp
  rw[hset]at t4
  have hbl:=hhi5 ad5.block (by simp[aj])
  have hge:=hnew ad5.block (by simp[aj])
  have s8:=ab hkn4.1
  have hkp8:KpL [] w (bL w7 (ad5.add (i*1)) [iv x.dims[i].last] 0):=hk07.more t5 (by simp;have:=hk04.size;omega)
  refine⟨ad5,rfl,by omega,hlt,fun _=>⟨_,hld5,_,lk,ad5,rfl,by omega,hlt,fun hkn7=>⟨t1,t2,⟨⟨by rw[List.mem_singleton,Int.toNat_natCast,t3];omega⟩,⟨by rw[List.mem_singleton,Int.toNat_natCast,t3];have:=hK4 k8 (by simp);omega⟩,⟨by rw[List.mem_singleton,Int.toNat_natCast,t3];have:=hK4 k1 (by simp);omega⟩,⟨by rw[List.mem_singleton,Int.toNat_natCast,t3];have:=hK4 s (by simp);omega⟩⟩,?_⟩⟩⟩
  rintro w8 rfl
  refine⟨ae.2 (by omega),fun _=>⟨⟨i+1,rfl,by omega,hkp8,⟨hA7.l.kp t5 (by simp[aj]),t4⟩⟩,by dsimp only;omega⟩⟩
 intro hge
 have hie:i=x.dims.length:=by omega
 subst hie
 have hlo:=hA7.l.done (by have:=hA7.l.len;simp at this;omega)
 have hhi:=hA7.h.done (by omega)
 have ehi:(x.dims.map (·.last)).take x.dims.length++(x.dims.map (·.hi)).drop x.dims.length=x.dims.map (·.last):=by rw[List.take_of_length_le (by simp),List.drop_of_length_le (by simp),List.append_nil]
 rw[ehi]at hhi
 have hlol:k9=x.dims.length:=by have:=hA7.l.len;simpa using this
 obtain⟨hp1,_,_⟩:=hx1.sl_len
 obtain⟨hp2,_,hq2⟩:=hx2.sl_len
 refine⟨fun vs w'=>∃i:Nat,vs=[iv (i:Int)]/\i<=b.changes.length/\KpL [] w7 w'/\cr x.dims x.attrs (b.changes.drop i)=cr x.dims x.attrs b.changes,fun vs _=>match vs with|[.int _ i]=>b.changes.length - i.toNat|_=>0,fun _=>⟨0,rfl,by omega,KpL.refl _ _,rfl⟩,?_⟩
 rintro n6 w9 ⟨i,hvs,hi,hk79,he1⟩
 simp only[List.cons.injEq,Value.int.injEq,true_and,and_true]at hvs
 subst hvs
 have hk09:=hk07.trans hk79
 constructor
 ·intro hlt
  have gi:i<b.changes.length:=by omega
  rw[List.drop_eq_getElem_cons gi,cr]at he1
  obtain⟨ad4,cs4,rfl,hv4,hld4,_,_⟩:=(hc.kp0 hk09).sl_get gi
  obtain⟨a6,k14,k15,a7,k16,k17,rfl,hy1,hy2⟩:=hv4.cell
  generalize b.changes[i]=c at *
  obtain⟨hy1l,_,_⟩:=hy1.sl_len
  obtain⟨hy2l,_,hy2m⟩:=hy2.sl_len
  have bad:∀{z:Int},bF x.dims x.attrs c=z->z≠0->st.checkE b=z:=by
   intro z hz hz0
   rw[if_pos (by rw[hz];exact hz0),hz]at he1
   rw[e0,<-he1,if_pos hz0]
  have dec:b.changes.length - ((i:Int)+1).toNat<b.changes.length - (i:Int).toNat:=by omega
  refine⟨ad4,rfl,by omega,hlt,fun hkn9=>⟨_,_,_,_,_,_,hld4,fun k18 hk18=>⟨fun hl1=>⟨fun hz=>⟨fun hl2 w10 hw10 _=>⟨?_,hk09.trans hw10⟩,fun hl2 w11 hw11 _=>⟨(zQ (((hlo.kp0 hk79).kp0 hw11)) ((hhi.kp0 hk79).kp0 hw11) (hy1.kp0 hw11) (by simp) (by simp;omega) (by simp;omega) (by simp;omega)).mono ?_⟩⟩,fun hz w16 hw16 _=>⟨(zQ (((hlo.kp0 hk79).kp0 hw16)) ((hhi.kp0 hk79).kp0 hw16) (hy1.kp0 hw16) (by simp) (by simp;omega) (by simp;omega) (by simp;omega)).mono ?_⟩⟩,fun hl1 w21 hw21 _=>⟨?_,hk09.trans hw21⟩⟩⟩⟩
  ·rw[bad (z:=13) (by unfold bF;rw[if_pos (.inr ⟨by omega,by omega⟩)]) (by omega)]
  ·rintro e w12 ⟨rfl,hw12⟩
   rw[lB]
   have hk912:=hw11.trans hw12
   refine⟨_,rfl,hw12,fun hb1 _=>⟨?_,hk09.trans hk912⟩,fun hb1=>⟨fun vs w'=>∃j:Nat,vs=[iv (j:Int)]/\j<=c.vals.length/\KpL [] w9 w'/\cH (x.attrs.drop j) (c.vals.drop j)=cH x.attrs c.vals,
    fun vs _=>match vs with|[.int _ i]=>c.vals.length - i.toNat|_=>0,fun _=>⟨0,rfl,by omega,hk912,rfl⟩,?_⟩⟩
   ·rw[bad (z:=3) (by unfold bF;rw[if_neg (by omega),if_pos (gU hb1)]) (by omega)]
   rintro n7 w13 ⟨j,hvs,hj,hk913,he2⟩
   simp only[List.cons.injEq,Value.int.injEq,true_and,and_true]at hvs
   subst hvs
   have hk013:=hk09.trans hk913
   have ec:bF x.dims x.attrs c=if cH x.attrs c.vals=false then 12 else 0:=by unfold bF;rw[if_neg (by omega),if_neg (by rw[eP hb1];simp)]
   constructor
   ·intro hjl
    have gj:j<c.vals.length:=by omega
    have gj2:j<x.attrs.length:=by omega
    obtain⟨ad7,cs7,rfl,hv7,hld7,_,_⟩:=(hy2.kp0 hk913).sl_get gj
    obtain⟨rfl,_⟩:=hv7.val
    obtain⟨ad2,cs2,rfl,hv2,hld2,_,_,hpt2⟩:=(hx2.kp0 hk013).sl_get2 gj2
    obtain⟨rfl,_⟩:=hv2.attr
    rw[List.drop_eq_getElem_cons gj,List.drop_eq_getElem_cons gj2,cH]at he2
    refine⟨ad7,rfl,by omega,hjl,fun _=>⟨_,_,_,_,hld7,fun _ _=>⟨ad2,rfl,by omega,by omega,_,hpt2 1 [_] rfl,fun w14 hw14 _=>⟨(wu c.vals[j] x.attrs[j].type w14).mono ?_⟩⟩⟩⟩
    rintro e w15 ⟨rfl,hw15⟩
    have hk915:=(hk913.trans hw14).trans hw15
    refine⟨_,rfl,hw15,fun hf _=>⟨?_,hk09.trans hk915⟩,fun hf=>⟨ae.2 (by omega),fun _=>⟨⟨j+1,rfl,by omega,hk915,?_⟩,by dsimp only;omega⟩⟩⟩
    ·rw[gU hf]at he2
     rw[bad (z:=12) (by rw[ec,if_pos (by rw[<-he2];rfl)]) (by omega)]
    ·rw[eP hf]at he2
     rw[<-he2];simp
   ·intro hjg
    have hje:j=c.vals.length:=by omega
    refine⟨ae.2 (by omega),fun _=>⟨⟨i+1,rfl,by omega,hk79.trans hk913,?_⟩,dec⟩⟩
    rw[hje,List.drop_length]at he2
    rw[if_neg (by rw[ec,if_neg (by rw[<-he2];simp[cH])];simp)]at he1
    exact he1
  ·rintro e w12 ⟨rfl,hw12⟩
   rw[lB]
   have hk912:=hw16.trans hw12
   have hvn:c.vals=[]:=List.eq_nil_of_length_eq_zero (by omega)
   refine⟨_,rfl,hw12,fun hb1 _=>⟨?_,hk09.trans hk912⟩,fun hb1=>⟨fun vs w'=>vs=[iv 0]/\KpL [] w9 w',
    fun vs _=>0,fun _=>⟨rfl,hk912⟩,?_⟩⟩
   ·rw[bad (z:=3) (by unfold bF;rw[if_neg (by omega),if_pos (gU hb1)]) (by omega)]
   rintro n7 w13 ⟨hvs,hk913⟩
   simp only[List.cons.injEq,Value.int.injEq,true_and,and_true]at hvs
   subst hvs
   refine⟨fun hjl=>by omega,fun _=>⟨ae.2 (by omega),fun _=>⟨⟨i+1,rfl,by omega,hk79.trans hk913,?_⟩,dec⟩⟩⟩
   rw[if_neg (by unfold bF;rw[if_neg (by omega),if_neg (by rw[eP hb1];simp),hvn,if_neg (by simp[cH])];simp)]at he1
   exact he1
  ·rw[bad (z:=13) (by unfold bF;rw[if_pos (.inl (by omega))]) (by omega)]
 intro hge6
 rw[List.drop_eq_nil_of_le (by omega),cr]at he1
 rw[if_neg (by rw[<-he1];simp),]at e0
 have hatl:∀c∈b.changes,c.at_.length<=4:=fun c hcm=>by have:=tG (g9 he1.symm c hcm);omega
 intro hkn9
 have s9:=hk09.size
 refine eC (enc:=Pl.enc) (t:=tB) (M:=[]) (by simp) fun w22 hm22 hk22=>⟨_,rfl,[],hk22,⟨⟨by simp⟩,⟨by simp⟩,⟨by simp⟩,⟨by simp⟩⟩,?_⟩
 have hc22:=(hc.kp0 hk09).fresh hk22 (N:=[w9.heap.size]) (by simp)
 have hk022:=hk09.trans hk22
 have n13:=ab hkn9.1
 have n8:=ab hkn9.2.1
 have n1:=ab hkn9.2.2.1
 have n0:=ab hkn9.2.2.2
 generalize hmm:w9.heap.size=mm at *
 refine⟨fun vs w'=>∃(i:Nat) (mt:List Pl),vs=[iv (i:Int)]/\i<=b.changes.length/\KpL [] w w'/\KpL [mm] w22 w'/\Cx [] w' mm mt/\lQ kk mt (b.changes.drop i)=lQ kk [] b.changes,fun vs _=>match vs with|[.int _ i]=>b.changes.length - i.toNat|_=>0,fun _=>⟨0,[],rfl,by omega,hk022,KpL.refl _ _,hm22,rfl⟩,?_⟩
 rintro n17 w23 ⟨i,mt,hvs,hi,hk023,hk223,hm23,he3⟩
 simp only[List.cons.injEq,Value.int.injEq,true_and,and_true]at hvs
 subst hvs
 constructor
 ·intro hlt
  have gi:i<b.changes.length:=by omega
  rw[List.drop_eq_getElem_cons gi,lQ]at he3
  obtain⟨ad4,cs4,rfl,hv4,hld4,_,_⟩:=(hc22.kp hk223 (by simp)).sl_get gi
  obtain⟨a6,k14,k15,a7,k16,k17,rfl,hy1,hy2⟩:=hv4.cell
  have hcl:=hatl _ (List.getElem_mem gi)
  generalize b.changes[i]=c at *
  refine⟨ad4,rfl,by omega,hlt,fun hkn23=>⟨_,_,_,_,_,_,hld4,fun k25 hk25 w24 hw24 hkn24=>⟨(rj (x:=kk) (hy1.kp0 hw24) hcl).mono ?_⟩⟩⟩
  rintro e w25 ⟨rfl,hw25⟩
  generalize hpp:be kk c.at_=p at *
  refine⟨p.a,p.p0,p.p1,p.p2,p.p3,rfl,hw25,fun k26 hk26 w26 hw26 hkn26=>?_⟩
  have hk236:=(hw24.trans hw25).trans hw26
  have hm26:=hm23.kp0 hk236
  have hmlt:=hm23.lt
  have s236:=hk236.size
  have hk026:=hk023.trans hk236
  refine Cz hm26 p ⟨_,rfl,[],KpL.refl _ _,⟨⟨by simp⟩,⟨by simp⟩,⟨by simp⟩,⟨by simp⟩,⟨by simp⟩,⟨by simp⟩⟩,fun hmem _=>⟨?_,hk026⟩,fun hnm hkn27=>?_⟩
  ·rw[if_pos (of_decide_eq_true hmem)]at he3
   rw[e0,<-he3]
  ·have hnm':=of_decide_eq_false hnm
   rw[if_neg hnm']at he3
   refine z7 hm26 hnm' fun w28 hm28 hk28=>⟨rfl,[mm],hk28,⟨⟨by simp;have:=hw24.size;have:=hw25.size;omega⟩,⟨by simp;omega⟩,⟨by simp;omega⟩,⟨by simp;omega⟩,⟨by simp;omega⟩,⟨by simp;omega⟩⟩,ae.2 (by omega),fun _=>⟨⟨i+1,_,rfl,by omega,hk026.more hk28 (by simp;omega),(hk223.trans (hk236.mono (by simp))).trans hk28,hm28,he3⟩,by dsimp only;omega⟩⟩
 ·intro hge _
  rw[List.drop_eq_nil_of_le (by omega),lQ]at he3
  exact⟨by rw[e0,<-he3],hk023⟩
end Go.Vc
namespace Go.Vc
open Go Go.Proofs
theorem Ci(f:Nat):∀(m n:Nat),n<128 ^ (m+1)->(iM f n).length<=m+1:=by
 induction f with
 |zero=>intro m n _;simp[iM]
 |succ f ih =>
  intro m n h
  unfold iM
  split
  ·simp
  ·rename_i hn
   cases m with
   |zero=>simp at h;omega
   |succ m =>
    have:n / 128<128 ^ (m+1):=by
     rw[Nat.div_lt_iff_lt_mul (by omega)]
     rw[Nat.pow_succ]at h
     exact h
    have:=ih m _ this
    simp only[List.length_cons]
    omega
theorem cj(m:Nat){n:Int}(h:n.toNat<128 ^ (m+1)):(bf n).length<=m+1:=Ci _ m _ h
theorem kA{s:ByteArray}(h:s.size<=12):(dK s).length<=13:=by
 unfold dK
 rw[List.length_append,iy]
 have:=cj 0 (n:=s.size) (by simp;omega)
 omega
theorem CR{s:ByteArray}(h:s.size<=16):(dK s).length<=17:=by
 unfold dK
 rw[List.length_append,iy]
 have:=cj 0 (n:=s.size) (by simp;omega)
 omega
theorem lD{x:Int}{b:Nat}(h0 : -(b:Int)<=x)(h1:x<=b):(dW x).toNat<=2*b:=by unfold dW;split<;>omega
theorem Bb{v:Vl}(h:v.right=true):(eZ v).length<=18:=by
 unfold Vl.right at h
 unfold eZ
 split at h
 ·rw[if_neg (by omega),if_neg (by omega)];simp
 split at h
 ·rw[if_neg (by omega),if_neg (by omega)];simp
 split at h
 ·rename_i h2
  rw[if_neg (by omega),if_pos h2]
  simp only[Bool.and_eq_true,decide_eq_true_eq]at h
  obtain⟨_,h3,h4,h5,h6,_⟩:=h
  have e1:=cj 5 (n:=dW v.n) (by have:=lD (x:=v.n) (b:=1099511627776) (by omega) (by omega);omega)
  have e2:=cj 5 (n:=IntKind.u64.wrap v.d) (by rw[aE (aJ.2 (by omega))];omega)
  simp only[List.length_cons,List.length_append]
  omega
 split at h
 ·rename_i h2
  rw[if_pos h2]
  simp only[Bool.and_eq_true,decide_eq_true_eq]at h
  have:=CR h.2.2.1
  simp only[List.length_cons]
  omega
 ·cases h
theorem fh{α:Type}{f:α->List Int}{k:Nat}:∀{l:List α},(∀x∈l,(f x).length<=k)->(l.flatMap f).length<=l.length*k
 |[],_=>by simp
 |x::r,h=>by
  have h1:=h x (by simp)
  have h2:=fh (l:=r) fun y hy=>h y (by simp[hy])
  simp only[List.flatMap_cons,List.length_append,List.length_cons,Nat.succ_mul]
  omega
theorem mb{l:List Vl}(h:∀v∈l,v.right=true)(hn:l.length<=6):(ee l).length<=109:=by
 unfold ee
 have h1:=fh (f:=eZ) (k:=18) fun v hv=>Bb (h v hv)
 have h2:=cj 0 (n:=l.length) (by simp;omega)
 rw[List.length_append]
 omega
theorem o8{l:List Int}(h:∀x∈l,-1073741824<=x/\x<=1073741824)(hn:l.length<=4):(de l).length<=20:=by
 unfold de
 have h1:=fh (f:=fun n=>bf (dW n)) (k:=5) (l:=l) fun x hx=>by
  have:=h x hx
  exact cj 4 (by have:=lD (x:=x) (b:=1073741824) (by omega) (by omega);omega)
 omega
theorem kL:∀{ats:List cI} {vs:List Vl},cH ats vs=true->vs.length<=ats.length/\∀v∈vs,v.right=true
 |_,[],_=>by simp
 |[],_::_,h=>by simp[cH]at h
 |a::ats,v::vs,h=>by
  simp only[cH,Bool.and_eq_true]at h
  obtain⟨h1,h2⟩:=kL h.2
  simp only[List.length_cons,List.mem_cons]
  refine⟨by omega,fun x hx=>?_⟩
  rcases hx with rfl|hx
  ·have:=h.1
   unfold Vl.fits at this
   simp only[Bool.and_eq_true]at this
   exact this.1
  ·exact h2 x hx
theorem cS{ds:List dI}{ats:List cI}(h:aV ds ats=0):(bX [] ds).1=0/\1<=ats.length/\ats.length<=6:=by
 unfold aV at h
 split at h
 ·omega
 ·rename_i h1
  split at h
  ·cases h
  ·omega
theorem tq:∀{ds:List dI} {met:List ByteArray},(dB met ds).1=0->∀d∈ds,bx d.name=true/\-1073741824<=d.lo/\d.lo<=d.hi/\d.hi<=1073741825/\d.lo<=1073741824
 |[],_,_,d,hd=>by simp at hd
 |x::r,met,h,d,hd=>by
  unfold dB at h
  split at h
  ·cases h
  rename_i h1
  split at h
  ·cases h
  rename_i h2
  rcases List.mem_cons.1 hd with rfl|hd
  ·simp only[not_or]at h1
   exact⟨by simpa using h1.1,by omega,by omega,by omega,by omega⟩
  ·exact tq h d hd
theorem jt{ds:List dI}(h:(bX [] ds).1=0):∀d∈ds,bx d.name=true/\-1073741824<=d.lo/\d.lo<=d.hi/\d.hi<=1073741825/\d.lo<=1073741824:=by
 unfold bX at h
 split at h
 ·cases h
 ·exact tq h
theorem pu:∀{l:List cI} {met:List ByteArray},ez met l=0->∀a∈l,bx a.name=true/\1<=a.type/\a.type<=4
 |[],_,_,d,hd=>by simp at hd
 |x::r,met,h,d,hd=>by
  unfold ez at h
  split at h
  ·cases h
  rename_i h1
  split at h
  ·cases h
  rename_i h2
  rcases List.mem_cons.1 hd with rfl|hd
  ·simp only[not_or]at h1
   exact⟨by simpa using h1.1,by omega,by omega⟩
  ·exact pu h d hd
theorem lC{ds:List dI}{ats:List cI}(h:aV ds ats=0):∀a∈ats,bx a.name=true/\1<=a.type/\a.type<=4:=by
 unfold aV at h
 split at h
 ·omega
 split at h
 ·cases h
 ·exact pu h
theorem qu:∀{ds:List dI} {xs:List Int},lU ds xs=true->(∀d∈ds,-1073741824<=d.lo)->xs.length=ds.length->∀x∈xs,-1073741824<=x/\x<=1073741824
 |_,[],_,_,_,x,hx=>by simp at hx
 |[],_::_,_,_,h,_,_=>by simp at h
 |d::ds,y::ys,h,hd,hl,x,hx=>by
  simp only[lU,Bool.and_eq_true,decide_eq_true_eq]at h
  have hd1:=hd d (by simp)
  rcases List.mem_cons.1 hx with rfl|hx
  ·have h1:d.lo<=x:=by simp_all
   have h2:x<=d.last:=by simp_all
   unfold dI.last at h2
   omega
  ·exact qu (ds:=ds) (xs:=ys) (by simp_all) (fun e he=>hd e (by simp[he])) (by simpa using hl) x hx
theorem bN{s:ByteArray}(h:bx s=true):1<=s.size/\s.size<=12:=by
 unfold bx at h
 simp only[Bool.and_eq_true,decide_eq_true_eq]at h
 exact⟨h.1,h.2.1⟩
theorem j5{ds:List dI}{ats:List cI}{c:aR}(h:bF ds ats c=0):c.at_.length=ds.length/\lU ds c.at_=true/\cH ats c.vals=true/\(c.vals=[]∨c.vals.length=ats.length):=by
 unfold bF at h
 split at h
 ·cases h
 ·rename_i h1
  split at h
  ·cases h
  ·rename_i h2
   split at h
   ·cases h
   ·rename_i h3
    simp only[not_or,not_and,Decidable.not_not]at h1
    refine⟨h1.1,by simpa using h2,by simpa using h3,?_⟩
    by_cases h0:c.vals.length=0
    ·exact .inl (List.eq_nil_of_length_eq_zero h0)
    ·exact .inr (h1.2 h0)
theorem jX{ds:List dI}{ats:List cI}(hs:aV ds ats=0){c:aR}(h:bF ds ats c=0):c.at_.length<=4/\c.vals.length<=6/\(ee c.vals).length<=109/\(de c.at_).length<=20:=by
 obtain⟨c1,c2,c3,_⟩:=j5 h
 obtain⟨c5,c6⟩:=kL c3
 obtain⟨s1,_,s3⟩:=cS hs
 have hd:=dN s1
 exact⟨by omega,by omega,mb c6 (by omega),o8 (qu c2 (fun d hdm=>(jt s1 d hdm).2.1) c1) (by omega)⟩
structure md (st:bg) (b:Bt):Prop where
 tok:bx b.token=true
 s0:0<=b.stamp
 s1:b.stamp<=1099511627776
 k0:0<=aI st.arrays b.array
 c1:1<=b.changes.length
 c2:b.changes.length<=16
 arr:∃x,st.arrays[(aI st.arrays b.array).toNat]?=some x/\∀c∈b.changes,bF x.arr.dims x.arr.attrs c=0
 dup:lQ (aI st.arrays b.array) [] b.changes=0
theorem et{st:bg}{b:Bt}(h:st.checkE b=0):md st b:=by
 unfold bg.checkE at h
 split at h
 ·cases h
 rename_i h1
 split at h
 ·cases h
 rename_i h2
 split at h
 ·cases h
 rename_i x hx
 split at h
 ·cases h
 rename_i h3
 split at h
 ·cases h
 rename_i h4
 split at h
 ·omega
 rename_i h5
 exact⟨by simpa using h1,by omega,by omega,by omega,by omega,by omega,⟨x,hx,g9 (by omega)⟩,h⟩
theorem sm{st:bg}{b:Bt}(hs:∀x∈st.arrays,aV x.arr.dims x.arr.attrs=0)(ha:st.arrays.length<=16)(h:md st b):(cD st.arrays b).length<=21+129*b.changes.length:=by
 obtain⟨x,hx,hall⟩:=h.arr
 have hxs:=hs x (List.mem_of_getElem? hx)
 have h1:=fh (f:=iB) (k:=129) (l:=b.changes) fun c hc=>by
  obtain⟨_,_,c3,c4⟩:=jX hxs (hall c hc)
  unfold iB
  rw[List.length_append]
  omega
 have h2:=kA (bN h.tok).2
 have h3:=cj 5 (n:=dW b.stamp) (by have:=lD (x:=b.stamp) (b:=1099511627776) (by have:=h.s0;omega) (by have:=h.s1;omega);omega)
 have hk0:=h.k0
 have hkl:=gE st.arrays b.array
 have h4:=cj 0 (n:=IntKind.u64.wrap (aI st.arrays b.array)) (by rw[aE (aJ.2 (by omega))];simp;omega)
 have hc2:=h.c2
 have h5:=cj 0 (n:=b.changes.length) (by simp;omega)
 unfold cD
 simp only[List.length_append]
 omega
end Go.Vc
namespace Go.Vc
open Go Go.Proofs
structure bU (M:List Nat) (w:World) (s l d:Nat) (num:Int) (nxt:Nat) (st:bg) (k:Dk) (F Fd:List Nat):Prop where
 sto:aK (Fd++M) w s l d num nxt st F
 dk:bz (F++M) w d k Fd
theorem fy.stepL{M M' Fd:List Nat}{w w':World}{s l m:Nat}{st:bg}{ra:Option Addr}{rn rc:Nat}{qa:Option Addr}{qn qc:Nat}(h:fy (Fd++M) w s l st m ra rn rc qa qn qc)(kp:KpL (l::Fd) w w')
 (hn:∀b∈M',(b∈Fd++M∨w.heap.size<=b)/\b<w'.heap.size)(hl:l<w.heap.size):fy M' w' s l st m ra rn rc qa qn qc:=by
 have ls:=ab h.hs
 have lm:=h.pls.lt
 have hsz:=kp.size
 have hout:∀x,x<w.heap.size->x∉Fd++M->x∉M':=fun x hx hxM hm=>(hn x hm).1.elim hxM (fun hge=>by omega)
 have hF:∀x∈Fd,x∈Fd++M:=fun x hx=>List.mem_append_left _ hx
 refine⟨(kp.blk s ls fun hm=>?_).trans h.hs,h.arr.step kp (fun b hb=>?_) ?_,h.pls.step kp (fun b hb=>?_) ?_,h.bat.step kp (fun b hb=>?_) ?_,h.sl,hout s ls h.sM,hout l hl h.lM,h.idI,h.useI,h.keys⟩
 ·rcases List.mem_cons.1 hm with hm|hm
  ·exact h.sl hm
  ·exact h.sM (hF s hm)
 ·rcases List.mem_cons.1 hb with rfl|hb
  ·simp
  ·simp[hb]
 ·intro b hb
  simp only[List.mem_cons,List.mem_append]at hb ⊢
  rcases hb with hb|hb|hb|hb|hb
  ·simp[hb]
  ·simp[hb]
  ·simp[hb]
  ·simp[hb]
  ·exact(hn b hb).1.imp (fun h=>by simp at h;simp[h]) id
 ·rcases List.mem_cons.1 hb with rfl|hb
  ·simp
  ·simp[hb]
 ·intro b hb
  simp only[List.mem_cons,List.mem_append]at hb ⊢
  rcases hb with hb|hb|hb|hb
  ·simp[hb]
  ·simp[hb]
  ·simp[hb]
  ·exact(hn b hb).1.imp (fun h=>by simp at h;simp[h]) id
 ·rcases List.mem_cons.1 hb with rfl|hb
  ·simp
  ·simp[hb]
 ·intro b hb
  simp only[List.mem_cons]at hb ⊢
  rcases hb with rfl|rfl|rfl|hb
  ·exact⟨.inl (by simp),by omega⟩
  ·exact⟨.inl (by simp),by omega⟩
  ·exact⟨.inl (by simp),by omega⟩
  ·exact⟨(hn b hb).1.imp (fun h=>by simp at h;simp[h]) id,(hn b hb).2⟩
section
variable {M F Fd:List Nat} {w w':World} {s l d:Nat} {num:Int} {nxt:Nat} {st:bg} {k:Dk} (h:bU M w s l d num nxt st k F Fd)
include h
theorem bU.kp0(kp:KpL [] w w'):bU M w' s l d num nxt st k F Fd:=⟨h.sto.kp0 kp,h.dk.kp0 kp⟩
theorem bU.step{M' N:List Nat}(kp:KpL N w w')(hs:∀b∈N,b∈M)(hn:∀b∈M',(b∈M∨w.heap.size<=b)/\b<w'.heap.size):bU M' w' s l d num nxt st k F Fd:=by
 have hsz:=kp.size
 refine⟨h.sto.step kp (fun b hb=>by simp[hs b hb]) fun b hb=>?_,h.dk.step kp (fun b hb=>by simp[hs b hb]) fun b hb=>?_⟩
 ·rcases List.mem_append.1 hb with hb|hb
  ·exact⟨.inl (by simp[hb]),by have:=(h.dk.own_lt b hb).1;omega⟩
  ·exact⟨(hn b hb).1.imp (fun h=>by simp[h]) id,(hn b hb).2⟩
 ·rcases List.mem_append.1 hb with hb|hb
  ·exact⟨.inl (by simp[hb]),by have:=(h.sto.own_lt b hb).1;omega⟩
  ·exact⟨(hn b hb).1.imp (fun h=>by simp[h]) id,(hn b hb).2⟩
theorem bU.mlt:∀b∈M,b<w.heap.size:=fun b hb=>h.dk.mlt b (by simp[hb])
theorem bU.own_lt:∀b∈F++Fd,b<w.heap.size/\b∉M:=by
 intro b hb
 rcases List.mem_append.1 hb with hb|hb
 ·exact⟨(h.sto.own_lt b hb).1,fun hm=>(h.sto.own_lt b hb).2 (by simp[hm])⟩
 ·exact⟨(h.dk.own_lt b hb).1,fun hm=>(h.dk.own_lt b hb).2 (by simp[hm])⟩
theorem bU.logTo{nxt':Nat}{num':Int}{k':Dk}(ht:Dr (F++M) Fd w l d num' nxt' k' w'):∃Fd',bU M w' s l d num' nxt' st k' F Fd'/\ci (F++Fd) w (F++Fd') w':=by
 obtain⟨Fd',hD,hO,hL⟩:=ht
 have hsz:=hO.kp.size
 refine⟨Fd',⟨?_,hD⟩,⟨hO.kp.mono fun x hx=>?_,fun x hx=>?_⟩⟩
 ·obtain⟨m,ra,rn,rc,qa,qn,qc,h',hl,rfl⟩:=h.sto
  refine⟨m,ra,rn,rc,qa,qn,qc,h'.stepL hO.kp (fun b hb=>?_) (ab hl),hL,rfl⟩
  rcases List.mem_append.1 hb with hb|hb
  ·refine⟨?_,(hD.own_lt b hb).1⟩
   rcases hO.new b (by simp[hb]) with hb'|hb'
   ·rcases List.mem_cons.1 hb' with rfl|hb'
    ·exact absurd (by simp) (hD.own_lt b hb).2
    ·exact .inl (by simp[hb'])
   ·exact .inr hb'
  ·exact⟨.inl (by simp[hb]),by have:=h.mlt b hb;omega⟩
 ·rcases List.mem_cons.1 hx with rfl|hx
  ·exact List.mem_append_left _ h.sto.lF
  ·simp[hx]
 ·rcases List.mem_append.1 hx with hx|hx
  ·exact .inl (by simp[hx])
  ·rcases hO.new x (by simp[hx]) with hx|hx
   ·rcases List.mem_cons.1 hx with rfl|hx
    ·exact .inl (List.mem_append_left _ h.sto.lF)
    ·exact .inl (by simp[hx])
   ·exact .inr hx
theorem bU.stoTo{st':bg}{F':List Nat}{num':Int}{nxt':Nat}(hS:aK (Fd++M) w' s l d num' nxt' st' F')(hO:ci F w F' w'):bU M w' s l d num' nxt' st' k F' Fd/\ci (F++Fd) w (F'++Fd) w':=by
 refine⟨⟨hS,h.dk.step hO.kp (fun b hb=>by simp[hb]) fun b hb=>?_⟩,⟨hO.kp.mono fun x hx=>by simp[hx],fun x hx=>?_⟩⟩
 ·rcases List.mem_append.1 hb with hb|hb
  ·exact⟨(hO.new b hb).imp (fun h=>by simp[h]) id,(hS.own_lt b hb).1⟩
  ·exact⟨.inl (by simp[hb]),hS.mlt b (by simp[hb])⟩
 ·rcases List.mem_append.1 hx with hx|hx
  ·exact(hO.new x hx).imp (fun h=>by simp[h]) id
  ·exact .inl (by simp[hx])
end
structure gz (k:Dk) (num:Int) (nxt:Nat) (q:Int) (b:List Int):Prop where
 n2:2<=k.n
 fit:nxt+aG b<k.half
 pl:k.pend.length<=900000
 ps:(k.add1 num nxt b).2.pend.length<=1000000
 ps2:((k.add1 num nxt b).2.write (k.base num+nxt) (bP q b.length)).2.pend.length<=1000000
structure Eu where
 ok:Bool
 e:Int
 st:bg
 k:Dk
 nxt:Nat
def bg.put(st:bg)(k:Dk)(num:Int)(nxt:Nat)(b:Bt):Eu :=
 if cw st k≠0 then ⟨false,cw st k,st,k,nxt⟩ else if st.checkE b≠0 then ⟨false,st.checkE b,st,k,nxt⟩ else if st.batches.any (fun x=>decide (x.token=b.token))=true then ⟨false,0,st,k,nxt⟩
 else if k.half<st.use+b.weight then ⟨false,18,st,k,nxt⟩
 else if (k.add num nxt 2 (cD st.arrays b)).1≠0 then ⟨false,(k.add num nxt 2 (cD st.arrays b)).1,{ st with id:=-1 },(k.add num nxt 2 (cD st.arrays b)).2,nxt⟩
 else ⟨true,0,st.commit b,(k.add num nxt 2 (cD st.arrays b)).2,nxt+1+aG (cD st.arrays b)⟩
structure ES (st:bg):Prop where
 an:st.arrays.length<=16
 sch:∀x∈st.arrays,aV x.arr.dims x.arr.attrs=0
 bn:st.batches.length<=900000
 pb:∀p∈st.places,0<=p.2.batch/\p.2.batch<=st.batches.length
 u0:0<=st.use
 u1:st.use<=1000000
set_option maxHeartbeats 2000000 in
theorem CX{M Mc F Fd:List Nat}{w:World}{s l d:Nat}{num:Int}{nxt:Nat}{st:bg}{k:Dk}{b:Bt}{ca:Option Addr}{cn cc:Nat}(h:bU M w s l d num nxt st k F Fd)(hc:R (au aC) (F++Fd++Mc) w b.changes [.slice ca cn cc])
 (hb:ES st)(hn2:2<=k.n)(hnum:0<=num)(hadd:st.checkE b=0->st.use+b.weight<=k.half->gz k num nxt 2 (cD st.arrays b)):
 Calls Zz 13 #[pK s,.agg #[.string b.token,iv b.stamp,.string b.array,.slice ca cn cc]] w fun e w'=>e=.returned (.tuple #[.bool (st.put k num nxt b).ok,iv (st.put k num nxt b).e])/\
  ∃F' Fd',bU M w' s l d num (st.put k num nxt b).nxt (st.put k num nxt b).st (st.put k num nxt b).k F' Fd'/\ci (F++Fd) w (F'++Fd') w':=by
 have hmx:az=140737488355328:=rfl
 obtain⟨rfl,hcn1,hcn2⟩:=hc.sl_len
 have e0:st.put k num nxt b=st.put k num nxt b:=rfl
 conv at e0=>rhs;unfold bg.put
 have hdm:∀x∈st.arrays,(bX [] x.arr.dims).1=0:=fun x hx=>(cS (hb.sch x hx)).1
 have same:∀{r:Eu} {w':World},st.put k num nxt b=r->KpL [] w w'->r.st=st->r.k=k->r.nxt=nxt->
  ∃F' Fd',bU M w' s l d num r.nxt r.st r.k F' Fd'/\ci (F++Fd) w (F'++Fd') w':=fun _ hk h1 h2 h3=>⟨F,Fd,by rw[h1,h2,h3];exact h.kp0 hk,ci.of0 hk⟩
 refine Cp fun k1 hk1 w1 hw1 hkn1=>⟨(gH (h.kp0 hw1).sto (h.kp0 hw1).dk).mono ?_⟩
 rintro e w2 ⟨rfl,hw2⟩
 have hk02:=hw1.trans hw2
 refine⟨_,rfl,hw2,fun hr _=>?_,fun hr hkn2=>⟨(yX (h.kp0 hk02).sto (hc.kp0 hk02) hdm).mono ?_⟩⟩
 ·rw[if_pos hr]at e0;rw[e0];exact⟨rfl,same e0 (hk02) rfl rfl rfl⟩
 rw[if_neg hr]at e0
 rintro e w3 ⟨rfl,hw3⟩
 have hk03:=hk02.trans hw3
 refine⟨_,rfl,hw3,fun hr _=>?_,fun hch hkn3=>?_⟩
 ·rw[if_pos hr]at e0;rw[e0];exact⟨rfl,same e0 (hk03) rfl rfl rfl⟩
 rw[if_neg hch]at e0
 have h3:=h.kp0 hk03
 obtain⟨m,ra,rn,rc,qa,qn,qc,hI,hl,hF⟩:=h3.sto
 have ld:∀{w':World} (i:Nat) (v:Value),KpL [] w3 w'->(#[Value.pointer (some ⟨l,0,none⟩),iv st.id,.slice ra rn rc,.map (some m),.slice qa qn qc,iv st.use]:Array Value).toList[i]?=some v->ao w' ((⟨s,0,none⟩:Addr).add i) [v]:=by
  intro w' i v hk hv
  rw[al]
  refine ak ((hk.blk s (ab hI.hs) (by simp)).trans hI.hs) _ _ ?_
  apply List.ext_getElem?
  intro j
  cases j with
  |zero=>simp at hv ⊢;exact hv
  |succ j=>simp;omega
 refine⟨qa,qn,qc,ld 4 _ (KpL.refl _ _) rfl,fun hkn3'=>⟨(oP (hI.bat.done (by have:=hI.bat.len;have:=hb.bn;omega)) (xF hkn3)).mono ?_⟩⟩
 rintro e w4 ⟨rfl,hw4⟩
 have hk04:=hk03.trans hw4
 refine⟨_,rfl,hw4,fun hr _=>?_,fun hr=>?_⟩
 ·rw[if_pos hr]at e0;rw[e0];exact⟨rfl,same e0 (hk04) rfl rfl rfl⟩
 rw[if_neg (by simp[hr])]at e0
 refine⟨_,ld 5 _ hw4 rfl,_,ld 0 _ hw4 rfl,_,rfl,_,ak ((hw4.blk l (ab hl) (by simp)).trans hl) 0 _ rfl,fun w5 hw5 hkn5=>⟨(px w5 b.token b.array b.stamp ca b.changes.length cc (by have:=(et (Classical.not_not.1 hch)).c2;omega)).mono ?_⟩⟩
 have hbo:=et (Classical.not_not.1 hch)
 rintro e w6 ⟨rfl,hw6⟩
 have hc2:=hbo.c2
 have hu0:=hb.u0
 have hu1:=hb.u1
 have hk06:=(hk04.trans hw5).trans hw6
 obtain⟨ss,hs1,hs2,hs3⟩:=h.dk.ok.secs
 refine⟨_,rfl,hw6,ae.2 (by omega),fun hkn6=>⟨(fB (h.kp0 hk06).dk (by unfold Dk.secs;omega)).mono ?_⟩⟩
 rintro e w7 ⟨rfl,hw7⟩
 have hk37:=((hw4.trans hw5).trans hw6).trans hw7
 have hk07:=hk03.trans hk37
 have hwt:b.weight=2+3*(b.changes.length:Int):=rfl
 refine⟨_,rfl,hw7,fun hr2 _=>?_,fun hr2=>⟨_,ld 0 _ hk37 rfl,fun w8 hw8 hkn8=>?_⟩⟩
 ·rw[if_pos (by omega)]at e0;rw[e0];exact⟨rfl,same e0 (hk07) rfl rfl rfl⟩
 rw[if_neg (by omega)]at e0
 have hadd:=hadd (Classical.not_not.1 hch) (by omega)
 have hk08:=hk07.trans hw8
 have h8:=h.kp0 hk08
 obtain⟨x,hx,hall⟩:=hbo.arr
 have hxm:x∈st.arrays:=List.mem_of_getElem? hx
 have hxs:=cS (hb.sch x hxm)
 have hd14:=dN hxs.1
 have hchg:=fun c hcm=>jX (hb.sch x hxm) (hall c hcm)
 have htk:=(bN hbo.tok).2
 have hs0:=hbo.s0
 have hs1':=hbo.s1
 have hst:ar .i64 b.stamp:=ae.2 (by omega)
 refine⟨(xO (N:=l::Fd) (fun y hy=>?_) (h8.sto.weak (by simp)) (hc.kp0 hk08) (by omega) hst (by omega) (fun c hcm=>⟨by have:=(hchg c hcm).1;omega,by have:=(hchg c hcm).2.2.1;omega⟩)).mono ?_⟩
 ·rcases List.mem_cons.1 hy with rfl|hy
  ·exact(h8.sto.own_lt y h8.sto.lF).1
  ·exact(h8.dk.own_lt y hy).1
 rintro e w9 ⟨a5,k4,k5,rfl,hV⟩
 have hk09:=hk08.trans hV.kpn
 have h9:=h8.kp0 hV.kpn
 have hlb:=sm hb.sch hb.an hbo
 have hlV:=hV.acc.len
 have hRb:=hV.acc.done (by omega)
 have hl9:aM w9 l d num nxt:=h9.sto.log
 refine⟨_,_,_,rfl,hV.kpn,fun hkn9=>⟨(rf h9.dk hl9 (List.mem_append_left _ h9.sto.lF) hRb (bC.2 (by omega)) hadd.n2 hnum hadd.fit hadd.pl hadd.ps hadd.ps2).mono ?_⟩⟩
 rintro e w10 ⟨rfl,hT⟩
 have hl10:=h9.own_lt
 have hk1F:k1∉F++Fd:=fun hm=>by have:=(h.own_lt k1 hm).1;omega
 obtain⟨Fd1,h10,hO10⟩:=h9.logTo hT
 have hO0:ci (F++Fd) w (F++Fd1) w10:=(ci.of0 hk09).trans hO10
 refine⟨_,rfl,_,hO10.kp,⟨hk1F⟩,fun hkn10=>⟨(wi h10.sto _).mono ?_⟩⟩
 rintro e w11 ⟨rfl,hS11,hO11⟩
 obtain⟨h11,hO11'⟩:=h10.stoTo hS11 hO11
 have hO0':=hO0.trans hO11'
 refine⟨_,rfl,_,hO11.kp,⟨fun hm=>hk1F (List.mem_append_left _ hm)⟩,fun hne _=>?_,fun hz hkn11=>?_⟩
 ·rw[if_pos hne]at e0
  rw[e0]
  rw[if_neg hne,if_pos hne]at h11
  exact⟨rfl,F,Fd1,h11,hO0'⟩
 have hz':=Classical.not_not.1 hz
 rw[if_neg hz]at e0
 rw[if_pos hz',if_neg hz]at h11
 have hc11:R (au aC) (F++(Fd1++Mc)) w11 b.changes [.slice ca b.changes.length cc]:=by
  have:=hO0'.data hc
  rwa [List.append_assoc]at this
 refine⟨(nL h11.sto hc11 (by omega) hst (by omega) (fun c hcm=>⟨(hchg c hcm).1,by have:=(hchg c hcm).2.1;omega⟩) hb.bn hb.pb (ae.2 (by have:=hbo.k0;have:=gE st.arrays b.array;have:=hb.an;omega)) ⟨hu0,hu1⟩).mono ?_⟩
 rintro e w12 ⟨rfl,F',hS12,hO12⟩
 obtain⟨h12,hO12'⟩:=h11.stoTo hS12 hO12
 refine⟨rfl,_,hO12.kp,⟨fun hm=>hk1F (List.mem_append_left _ hm)⟩,fun _=>?_⟩
 rw[e0]
 exact⟨rfl,F',Fd1,h12,hO0'.trans hO12'⟩
end Go.Vc
namespace Go.Vc
open Go Go.Proofs
structure tY (arrays:List Nm) (nb:Nat) (p:Pl×dE):Prop where
 a0:0<=p.1.a
 ex:∃x,arrays[p.1.a.toNat]?=some x/\(∃at_,at_.length=x.arr.dims.length/\lU x.arr.dims at_=true/\p.1=be p.1.a at_)/\cH x.arr.attrs p.2.vals=true/\(p.2.vals=[]∨p.2.vals.length=x.arr.attrs.length)
 b0:0<=p.2.batch
 b1:p.2.batch<=nb
structure dy (st:bg):Prop where
 a1:1<=st.arrays.length
 an:st.arrays.length<=16
 nms:∀x∈st.arrays,bx x.name=true
 nd:(st.arrays.map (·.name)).Nodup
 sch:∀x∈st.arrays,aV x.arr.dims x.arr.attrs=0
 cel:∀x∈st.arrays,x.arr.cells=[]
 bn:st.batches.length<=1000
 bat:∀x∈st.batches,bx x.token=true/\0<=x.stamp/\x.stamp<=1099511627776
 toks:(st.batches.map (·.token)).Nodup
 pn:st.places.length<=4000
 pls:∀p∈st.places,tY st.arrays st.batches.length p
 keys:(st.places.map (·.1)).Nodup
 u0:0<=st.use
 u1:st.use<=100000
theorem ib{α:Type}{f:α->List Int}:∀{l:List α},(∀x∈l,1<=(f x).length)->l.length<=(l.flatMap f).length
 |[],_=>by simp
 |x::r,h=>by
  have h1:=h x (by simp)
  have h2:=ib (l:=r) fun y hy=>h y (by simp[hy])
  simp only[List.flatMap_cons,List.length_append,List.length_cons]
  omega
theorem zA(f n:Nat):1<=(iM (f+1) n).length:=by unfold iM;split<;>simp
theorem nF(n:Int):1<=(bf n).length:=zA 9 _
theorem kU(s:ByteArray):1<=(dK s).length:=by have:=nF s.size;unfold dK;rw[List.length_append];omega
theorem tY.dims{arrays:List Nm}{nb:Nat}{p:Pl×dE}(h:tY arrays nb p)(hs:∀x∈arrays,aV x.arr.dims x.arr.attrs=0):p.1.a.toNat<arrays.length/\1<=cY arrays p.1.a/\cY arrays p.1.a<=4/\(p.1.co.take (cY arrays p.1.a)).length=cY arrays p.1.a/\
 (∀x∈p.1.co.take (cY arrays p.1.a),-1073741824<=x/\x<=1073741824)/\be p.1.a (p.1.co.take (cY arrays p.1.a))=p.1/\p.2.vals.length<=6/\∀v∈p.2.vals,v.right=true:=by
 obtain⟨h0,⟨x,hx,⟨at_,h1,h2,h3⟩,h4,h5⟩,_,_⟩:=h
 have hs1:=cS (hs x (List.mem_of_getElem? hx))
 have hd:=dN hs1.1
 have hn:cY arrays p.1.a=x.arr.dims.length:=by unfold cY;rw[hx]
 have hl:p.1.a.toNat<arrays.length:=by
  rw[List.getElem?_eq_some_iff]at hx
  exact hx.1
 obtain⟨f1,f2⟩:=kL h4
 have hco:p.1.co.take (cY arrays p.1.a)=at_:=by
  have e2:p.1.co=(be p.1.a at_).co:=congrArg Pl.co h3
  rw[hn,<-h1,e2]
  unfold Pl.co be
  match at_,(by omega:1<=at_.length/\at_.length<=4) with
  |[a],_=>rfl
  |[a,b],_=>rfl
  |[a,b,c],_=>rfl
  |[a,b,c,d],_=>rfl
  |_::_::_::_::_::_,h=>simp at h
 rw[hco]
 refine⟨hl,by omega,by omega,by omega,qu h2 (fun d hdm=>(jt hs1.1 d hdm).2.1) h1,h3.symm,by omega,f2⟩
end Go.Vc
namespace Go.Vc
open Go Go.Proofs
theorem pO{N:List Nat}{w:World}{s r T:Nat}{cs:List Value}{a1:Option Addr}{n1 c1:Nat}{x:Int}{rest:List Int}(hs:w.heap[s]?=some (.cells cs.toArray T (0,0)))(hc:cs[2]?=some (.slice a1 n1 c1))(hsr:s≠r)(h:cg N w r (bf x++rest))(h0:0<=x)(h1:x<n1)(h2:n1<=1000):
 Calls Zz 129 #[pK s,pK r] w fun e w'=>e=.returned (iv x)/\KpL [r] w w'/\cg N w' r rest:=by
 have ld:∀{w':World},KpL [r] w w'->ao w' ((⟨s,0,none⟩:Addr).add 2) [.slice a1 n1 c1]:=by
  intro w' hk
  rw[al]
  have hh:=(hk.blk s (ab hs) (by simpa using hsr)).trans hs
  refine ak (cs:=cs) hh 2 _ ?_
  apply List.ext_getElem?
  intro j
  cases j with
  |zero=>rw[List.getElem?_take,List.getElem?_drop];simpa using hc
  |succ j=>simp;omega
 refine yi ⟨_,_,_,ld (KpL.refl _ _),ae.2 (by omega),fun w1 hw1=>⟨(fx (h.kp0 hw1) h0 (by omega)).mono ?_⟩⟩
 rintro e w2 ⟨rfl,hw2,hD⟩
 have hk:=(hw1.mono (by simp)).trans hw2
 refine⟨_,rfl,_,hw2,⟨ld hk,trivial⟩,x,?_,?_,hk,hD⟩
 ·have:=lk (P:=Zz) (k:=.u64) (x:=x) (y:=IntKind.u64.wrap ((n1:Int) - 1)) (at_:=#[119,119]) (ty:=119)
  rw[aE (aJ.2 (by omega)),show min x ((n1:Int) - 1)=x from by omega]at this
  rw[aE (aJ.2 (by omega))]
  exact this
 ·rw[aE (ae.2 (by omega))]
set_option maxHeartbeats 1000000 in
theorem AN{M N Mx:List Nat}{w:World}{s r T:Nat}{cs:List Value}{a1:Option Addr}{n1 c1:Nat}{arrays:List Nm}{x:Int}{l rest:List Int}{nm:Nm}(hs:w.heap[s]?=some (.cells cs.toArray T (0,0)))(hc:cs[2]?=some (.slice a1 n1 c1))(hsr:s≠r)
 (hR:R (au gG) Mx w arrays [.slice a1 n1 c1])(hrx:r∈Mx)(hM:∀b∈M,b<w.heap.size)(hrM:r∈M)(h:cg N w r (de l++rest))(h0:0<=x)(hx:arrays[x.toNat]?=some nm)(hl:l.length=nm.arr.dims.length)(hn:l.length<=4)(hb:∀y∈l,-1073741824<=y/\y<=1073741824):
 Calls Zz 130 #[pK s,pK r,iv x] w fun e w'=>∃a n c,e=.returned (.slice a n c)/\KpL [r] w w'/\cg (aj a++N) w' r rest/\bI (tI .i64) M w' l a n c/\∀b∈aj a,w.heap.size<=b:=by
 have hxl:x.toNat<arrays.length:=by rw[List.getElem?_eq_some_iff]at hx;exact hx.1
 obtain⟨rfl,_,_⟩:=hR.sl_len
 obtain⟨ad,cs',rfl,hv1,_,hadN,_,hpt⟩:=hR.sl_get2 hxl
 have hxe:arrays[x.toNat]=nm:=by rw[List.getElem?_eq_getElem hxl]at hx;exact Option.some.inj hx
 rw[hxe]at hv1
 obtain⟨b1,p1,q1,b2,p2,q2,b3,p3,q3,rfl,_,hx1,_,_⟩:=hv1.nm
 obtain⟨hp1,_,_⟩:=hx1.sl_len
 have e2:∀{w':World},((ad.add (x.toNat*4)).add 1).add 0=(ad.add (x.toNat*4)).add 1:=fun {_}=>by rw[rP]
 have ldd:ao w (((ad.add (x.toNat*4)).add 1).add 0) [.slice b1 p1 q1]:=by rw[e2 (w':=w)];exact hpt 1 [_] rfl
 have ld:ao w ((⟨s,0,none⟩:Addr).add 2) [.slice (some ad) arrays.length c1]:=by
  rw[al]
  refine ak (cs:=cs) hs 2 _ ?_
  apply List.ext_getElem?
  intro j
  cases j with
  |zero=>rw[List.getElem?_take,List.getElem?_drop];simpa using hc
  |succ j=>simp;omega
 refine DA ⟨_,_,_,ld,ad,rfl,h0,by omega,b1,p1,q1,ldd,fun vs w'=>∃(i:Nat) (a:Option Addr) (n c:Nat),vs=[.slice a n c,iv (i:Int)]/\i<=l.length/\KpL [r] w w'/\cg (aj a++N) w' r (de (l.drop i)++rest)/\bI (tI .i64) M w' (l.take i) a n c/\∀b∈aj a,w.heap.size<=b,
  fun vs _=>match vs with|[_,.int _ i]=>l.length - i.toNat|_=>0,⟨0,none,0,0,rfl,by omega,KpL.refl _ _,h,bI.nil' _ hM,by simp[aj]⟩,?_⟩
 rintro a n c n2 w2 ⟨i,_,_,_,hv,hi,hk2,hD2,hA,hnew⟩
 simp only[List.cons.injEq,Value.int.injEq,Value.slice.injEq,true_and,and_true]at hv
 obtain⟨⟨rfl,rfl,rfl⟩,rfl⟩:=hv
 constructor
 ·intro hlt
  have gi:i<l.length:=by omega
  have hlA:=hA.len
  rw[List.length_take,Nat.min_eq_left hi]at hlA
  rw[List.drop_eq_getElem_cons gi]at hD2
  have hd1:cg (aj a++N) w2 r (bf (dW l[i])++(de (l.drop (i+1))++rest)):=by
   have e:de (l[i]::l.drop (i+1))++rest=bf (dW l[i])++(de (l.drop (i+1))++rest):=by unfold de;rw[List.flatMap_cons,List.append_assoc]
   rw[<-e];exact hD2
  have hbi:=hb l[i] (List.getElem_mem gi)
  have htk:=List.take_append_getElem gi
  generalize l[i]=v at *
  refine⟨(eG hd1 (by omega) (by omega)).mono ?_⟩
  rintro e w3 ⟨rfl,hw3,hD3⟩
  refine⟨_,rfl,_,hw3,fun k7 hk7 w4 hw4 hkn4=>?_⟩
  have hA4:=(hA.kp hw3 (by simpa using hrM)).kp0 hw4
  have s23:=hw3.size
  refine aD zm hA4 hkn4 (R.int (ae.2 (by omega))) (by omega) fun a' c' w5 hC=>⟨_,_,_,rfl,_,hC.kp,⟨fun hm=>by have:=(hA.blk_lt _ hm).1;omega⟩,ae.2 (by omega),fun _=>⟨⟨i+1,a',n+1,c',rfl,by omega,?_,?_,?_,?_⟩,by dsimp only;omega⟩⟩
  ·exact((hk2.trans hw3).trans (hw4.mono (by simp))).more hC.kp fun x hx=>.inr (hnew x hx)
  ·refine(hD3.kp0 hw4).step hC.kp (fun hm=>(hA.blk_lt r hm).2 hrM) (fun x hx=>.inl (by simp[hx])) fun x hx=>?_
   rcases List.mem_append.1 hx with hx|hx
   ·exact(hC.own x hx).imp (fun h=>by simp[h]) id
   ·exact .inl (by simp[hx])
  ·rw[<-htk];exact hC.acc
  ·intro x hx
   rcases hC.own x hx with hx|hx
   ·exact hnew x hx
   ·have:=hk2.size;have:=hw4.size;omega
 ·intro hge
  have hie:i=l.length:=by omega
  subst hie
  rw[List.take_length]at hA
  rw[List.drop_length]at hD2
  exact⟨a,n,c,rfl,hk2,hD2,hA,hnew⟩
end Go.Vc
namespace Go.Vc
open Go Go.Proofs
open Go.Value Go.Ending Go.IntKind
set_option maxRecDepth 100000
section
variable{w:World}{R:Ending->World->Prop}
theorem BK{s:Nat}{r:Nat}
 (h :
 ag Zz 125 #[pK r] w fun e1 w1 =>
 ∃n1,e1=returned (iv n1)/\∃l1,KpL l1 w w1/\∃(P1:LP)(P2:LM),P1 [iv 0] w1/\∀n2 w2,P1 [iv n2] w2->(n2<n1->ag Zz 126 #[pK r] w2 fun e2 w3 =>
 ∃s1,e2=returned (string s1)/\∃l2,KpL l2 w2 w3/\∀k1,w3.heap.size<=k1->∀w4,KpL [] w3 w4->Hb w4 k1 #[string s1,slice none 0 0,slice none 0 0,slice none 0 0] 60->ag Zz 125 #[pK r] w4 fun e3 w5 =>
 ∃n3,e3=returned (iv n3)/\∃l3,KpL l3 w4 w5/\af k1 l3/\∃(P3:LP) (P4:LM),(Hb w5 k1 #[string s1,slice none 0 0,slice none 0 0,slice none 0 0] 60->P3 [iv 0,string s1,slice none 0 0,slice none 0 0,slice none 0 0] w5)/\∀n4 s2 a1 k2 k3 a2 k4 k5 a3 k6 k7 w6,Hb w6 k1 #[string s2,slice a1 k2 k3,slice a2 k4 k5,slice a3 k6 k7] 60->P3 [iv n4,string s2,slice a1 k2 k3,slice a2 k4 k5,slice a3 k6 k7] w6->(n4<n3->∀w7,KpL [] w6 w7->Hb w7 k1 #[string s2,slice a1 k2 k3,slice a2 k4 k5,slice a3 k6 k7] 60->ag Zz 126 #[pK r] w7 fun e4 w8 =>
 ∃s3,e4=returned (string s3)/\∃l4,KpL l4 w7 w8/\af k1 l4/\(Hb w8 k1 #[string s2,slice a1 k2 k3,slice a2 k4 k5,slice a3 k6 k7] 60->(ao w8 (Addr.mk k1 (0+1+0) none) [slice a1 k2 k3]/\True)/\(Hb w8 k1 #[string s2,slice a1 k2 k3,slice a2 k4 k5,slice a3 k6 k7] 60->ag Zz 127 #[pK r] w8 fun e5 w9 =>
 ∃n5,e5=returned (iv n5)/\∃l5,KpL l5 w8 w9/\af k1 l5/\(Hb w9 k1 #[string s2,slice a1 k2 k3,slice a2 k4 k5,slice a3 k6 k7] 60->(ao w9 (Addr.mk k1 (0+1+0) none) [slice a1 k2 k3]/\True)/\(Hb w9 k1 #[string s2,slice a1 k2 k3,slice a2 k4 k5,slice a3 k6 k7] 60->ag Zz 127 #[pK r] w9 fun e6 w10 =>
 ∃n6,e6=returned (iv n6)/\∃l6,KpL l6 w9 w10/\af k1 l6/\(Hb w10 k1 #[string s2,slice a1 k2 k3,slice a2 k4 k5,slice a3 k6 k7] 60->(ao w10 (Addr.mk k1 (0+1+0) none) [slice a1 k2 k3]/\True)/\∀k8,w10.heap.size<=k8->∀w11,KpL [] w10 w11->Hb w11 k8 #[string s3,iv n5,iv n6] 153/\Hb w11 k1 #[string s2,slice a1 k2 k3,slice a2 k4 k5,slice a3 k6 k7] 60->Ev Zz (Builtin.append_ #[54,54] 54 #[slice a1 k2 k3,sK k8 1 1]) w11 fun y1 w12 =>
 ∃a4 k9 k10,y1=slice a4 k9 k10/\∃l7,KpL l7 w11 w12/\(af k8 l7/\af k1 l7)/\ar i64 (n4+1)/\∀w13,KpL [k1] w12 w13->Hb w13 k8 #[string s3,iv n5,iv n6] 153/\Hb w13 k1 #[string s2,slice a4 k9 k10,slice a2 k4 k5,slice a3 k6 k7] 60->P3 [iv (n4+1),string s2,slice a4 k9 k10,slice a2 k4 k5,slice a3 k6 k7] w13/\P4 [iv (n4+1),string s2,slice a4 k9 k10,slice a2 k4 k5,slice a3 k6 k7] w13<P4 [iv n4,string s2,slice a1 k2 k3,slice a2 k4 k5,slice a3 k6 k7] w6))))))/\(¬n4<n3->Hb w6 k1 #[string s2,slice a1 k2 k3,slice a2 k4 k5,slice a3 k6 k7] 60->ag Zz 125 #[pK r] w6 fun e7 w14 =>
 ∃n7,e7=returned (iv n7)/\∃l8,KpL l8 w6 w14/\af k1 l8/\∃(P5:LP) (P6:LM),(Hb w14 k1 #[string s2,slice a1 k2 k3,slice a2 k4 k5,slice a3 k6 k7] 60->P5 [iv 0,string s2,slice a1 k2 k3,slice a2 k4 k5,slice a3 k6 k7] w14)/\∀n8 s4 a5 k11 k12 a6 k13 k14 a7 k15 k16 w15,Hb w15 k1 #[string s4,slice a5 k11 k12,slice a6 k13 k14,slice a7 k15 k16] 60->P5 [iv n8,string s4,slice a5 k11 k12,slice a6 k13 k14,slice a7 k15 k16] w15->(n8<n7->∀w16,KpL [] w15 w16->Hb w16 k1 #[string s4,slice a5 k11 k12,slice a6 k13 k14,slice a7 k15 k16] 60->ag Zz 126 #[pK r] w16 fun e8 w17 =>
 ∃s5,e8=returned (string s5)/\∃l9,KpL l9 w16 w17/\af k1 l9/\(Hb w17 k1 #[string s4,slice a5 k11 k12,slice a6 k13 k14,slice a7 k15 k16] 60->(ao w17 (Addr.mk k1 (0+1+1) none) [slice a6 k13 k14]/\True)/\(Hb w17 k1 #[string s4,slice a5 k11 k12,slice a6 k13 k14,slice a7 k15 k16] 60->ag Zz 128 #[pK r] w17 fun e9 w18 =>
 ∃n9,e9=returned (int u8 n9)/\∃l10,KpL l10 w17 w18/\af k1 l10/\(Hb w18 k1 #[string s4,slice a5 k11 k12,slice a6 k13 k14,slice a7 k15 k16] 60->(ao w18 (Addr.mk k1 (0+1+1) none) [slice a6 k13 k14]/\True)/\ar i64 n9/\∀k17,w18.heap.size<=k17->∀w19,KpL [] w18 w19->Hb w19 k17 #[string s5,iv n9] 156/\Hb w19 k1 #[string s4,slice a5 k11 k12,slice a6 k13 k14,slice a7 k15 k16] 60->Ev Zz (Builtin.append_ #[55,55] 55 #[slice a6 k13 k14,sK k17 1 1]) w19 fun y2 w20 =>
 ∃a8 k18 k19,y2=slice a8 k18 k19/\∃l11,KpL l11 w19 w20/\(af k17 l11/\af k1 l11)/\ar i64 (n8+1)/\∀w21,KpL [k1] w20 w21->Hb w21 k17 #[string s5,iv n9] 156/\Hb w21 k1 #[string s4,slice a5 k11 k12,slice a8 k18 k19,slice a7 k15 k16] 60->P5 [iv (n8+1),string s4,slice a5 k11 k12,slice a8 k18 k19,slice a7 k15 k16] w21/\P6 [iv (n8+1),string s4,slice a5 k11 k12,slice a8 k18 k19,slice a7 k15 k16] w21<P6 [iv n8,string s4,slice a5 k11 k12,slice a6 k13 k14,slice a7 k15 k16] w15))))/\(¬n8<n7->∃a9 k20 k21,ao w15 ((Addr.mk s 0 none).add 2) [slice a9 k20 k21]/\∀k22,w15.heap.size<=k22->∀w22,KpL [] w15 w22->Hb w22 k22 #[string s4,slice a5 k11 k12,slice a6 k13 k14,slice a7 k15 k16] 60/\Hb w22 k1 #[string s4,slice a5 k11 k12,slice a6 k13 k14,slice a7 k15 k16] 60->Ev Zz (Builtin.append_ #[23,23] 23 #[slice a9 k20 k21,sK k22 1 1]) w22 fun y3 w23 =>
 ∃a10 k23 k24,y3=slice a10 k23 k24/\∃l12,KpL l12 w22 w23/\(af k22 l12/\af k1 l12)/\(Hb w23 k22 #[string s4,slice a5 k11 k12,slice a6 k13 k14,slice a7 k15 k16] 60/\Hb w23 k1 #[string s4,slice a5 k11 k12,slice a6 k13 k14,slice a7 k15 k16] 60->(∃l13,ao w23 ((Addr.mk s 0 none).add 2) l13/\l13.length=1)/\aq w23 ((Addr.mk s 0 none).add 2) 1/\(af k22 [s]/\af k1 [s])/\∀w24,w24=bL w23 ((Addr.mk s 0 none).add 2) [slice a10 k23 k24] 0->ar i64 (n2+1)/\(Hb w24 k22 #[string s4,slice a5 k11 k12,slice a6 k13 k14,slice a7 k15 k16] 60/\Hb w24 k1 #[string s4,slice a5 k11 k12,slice a6 k13 k14,slice a7 k15 k16] 60->P1 [iv (n2+1)] w24/\P2 [iv (n2+1)] w24<P2 [iv n2] w2)))))/\(¬n2<n1->ag Zz 125 #[pK r] w2 fun e10 w25 =>
 ∃n10,e10=returned (iv n10)/\∃l14,KpL l14 w2 w25/\∃(P7:LP) (P8:LM),P7 [iv 0] w25/\∀n11 w26,P7 [iv n11] w26->(n11<n10->∃a11 k25 k26,ao w26 ((Addr.mk s 0 none).add 4) [slice a11 k25 k26]/\∀w27,KpL [] w26 w27->ag Zz 126 #[pK r] w27 fun e11 w28 =>
 ∃s6,e11=returned (string s6)/\∃l15,KpL l15 w27 w28/\(ao w28 ((Addr.mk s 0 none).add 4) [slice a11 k25 k26]/\True)/\ag Zz 127 #[pK r] w28 fun e12 w29 =>
 ∃n12,e12=returned (iv n12)/\∃l16,KpL l16 w28 w29/\(ao w29 ((Addr.mk s 0 none).add 4) [slice a11 k25 k26]/\True)/\∀k27,w29.heap.size<=k27->∀w30,KpL [] w29 w30->Hb w30 k27 #[string s6,iv n12] 112->Ev Zz (Builtin.append_ #[110,110] 110 #[slice a11 k25 k26,sK k27 1 1]) w30 fun y4 w31 =>
 ∃a12 k28 k29,y4=slice a12 k28 k29/\∃l17,KpL l17 w30 w31/\af k27 l17/\(Hb w31 k27 #[string s6,iv n12] 112->(∃l18,ao w31 ((Addr.mk s 0 none).add 4) l18/\l18.length=1)/\aq w31 ((Addr.mk s 0 none).add 4) 1/\af k27 [s]/\∀w32,w32=bL w31 ((Addr.mk s 0 none).add 4) [slice a12 k28 k29] 0->ar i64 (n11+1)/\(Hb w32 k27 #[string s6,iv n12] 112->P7 [iv (n11+1)] w32/\P8 [iv (n11+1)] w32<P8 [iv n11] w26)))/\(¬n11<n10->Ev Zz (Instr.makeMap 114 none) w26 fun y5 w33 =>
 ∃m1,y5=map m1/\∃l19,KpL l19 w26 w33/\(∃l20,ao w33 ((Addr.mk s 0 none).add 3) l20/\l20.length=1)/\aq w33 ((Addr.mk s 0 none).add 3) 1/\∀w34,w34=bL w33 ((Addr.mk s 0 none).add 3) [map m1] 0->ag Zz 125 #[pK r] w34 fun e13 w35 =>
 ∃n13,e13=returned (iv n13)/\∃l21,KpL l21 w34 w35/\∃(P9:LP) (P10:LM),P9 [iv 0] w35/\∀n14 w36,P9 [iv n14] w36->(n14<n13->ag Zz 129 #[pK s,pK r] w36 fun e14 w37 =>
 ∃n15,e14=returned (iv n15)/\∃l22,KpL l22 w36 w37/\ag Zz 130 #[pK s,pK r,iv n15] w37 fun e15 w38 =>
 ∃a13 k30 k31,e15=returned (slice a13 k30 k31)/\∃l23,KpL l23 w37 w38/\∃m2,ao w38 ((Addr.mk s 0 none).add 3) [map m2]/\∀w39,KpL [] w38 w39->ag Zz 78 #[iv n15,slice a13 k30 k31] w39 fun e16 w40 =>
 ∃n16 n17 n18 n19 n20,e16=returned (agg #[iv n16,iv n17,iv n18,iv n19,iv n20])/\KpL [] w39 w40/\ag Zz 131 #[pK r] w40 fun e17 w41 =>
 ∃n21,e17=returned (int u64 n21)/\∃l24,KpL l24 w40 w41/\(ao w41 ((Addr.mk s 0 none).add 3) [map m2]/\True)/\ag Zz 132 #[pK r] w41 fun e18 w42 =>
 ∃a14 k32 k33,e18=returned (slice a14 k32 k33)/\∃l25,KpL l25 w41 w42/\(ao w42 ((Addr.mk s 0 none).add 3) [map m2]/\True)/\Ev Zz (do
 Instr.mapUpdate 114 (map m2) (agg #[iv n16,iv n17,iv n18,iv n19,iv n20]) (agg #[iv (i64.wrap n21),slice a14 k32 k33])
 pure undef) w42 fun y6 w43 =>
 y6=tuple #[]/\∃l26,KpL l26 w42 w43/\ar i64 (n14+1)/\P9 [iv (n14+1)] w43/\P10 [iv (n14+1)] w43<P10 [iv n14] w36)/\(¬n14<n13->ag Zz 61 #[pK s] w36 fun e19 w44 =>
 ∃n22,e19=returned (iv n22)/\KpL [] w36 w44/\(∃l27,ao w44 ((Addr.mk s 0 none).add 5) l27/\l27.length=1)/\aq w44 ((Addr.mk s 0 none).add 5) 1/\∀w45,w45=bL w44 ((Addr.mk s 0 none).add 5) [iv n22] 0->R (returned (tuple #[])) w45)))):Calls Zz 65 #[pK s,pK r] w R :=
 fz { loops:=[⟨19,[87],[5,6]++rg 88 22,[]⟩,⟨14,[64],rg 65 16,[0]⟩,⟨8,[35],rg 36 15,[4]⟩,⟨4,[16],rg 17 16,[4]⟩,⟨1,[9],[4]++rg 10 52,[0]⟩],muts:=rg 125 8,all:=true } [av (pK s),av (pK r)] Tryz.func65 h
theorem wT{s:Nat}{r:Nat}
 (h :
 ∀k1,w.heap.size<=k1->∀w1,KpL [] w w1->Hb w1 k1 #[string (ByteArray.mk #[]),iv 0,string (ByteArray.mk #[]),slice none 0 0] 48->ag Zz 126 #[pK r] w1 fun e1 w2 =>
 ∃s1,e1=returned (string s1)/\∃l1,KpL l1 w1 w2/\af k1 l1/\(Hb w2 k1 #[string (ByteArray.mk #[]),iv 0,string (ByteArray.mk #[]),slice none 0 0] 48->ag Zz 127 #[pK r] w2 fun e2 w3 =>
 ∃n1,e2=returned (iv n1)/\∃l2,KpL l2 w2 w3/\af k1 l2/\∀k2,w3.heap.size<=k2->∀w4,KpL [] w3 w4->Hb w4 k2 #[string s1,iv n1,string (ByteArray.mk #[]),slice none 0 0] 48/\Hb w4 k1 #[string (ByteArray.mk #[]),iv 0,string (ByteArray.mk #[]),slice none 0 0] 48->ag Zz 129 #[pK s,pK r] w4 fun e3 w5 =>
 ∃n2,e3=returned (iv n2)/\∃l3,KpL l3 w4 w5/\(af k2 l3/\af k1 l3)/\(Hb w5 k2 #[string s1,iv n1,string (ByteArray.mk #[]),slice none 0 0] 48/\Hb w5 k1 #[string (ByteArray.mk #[]),iv 0,string (ByteArray.mk #[]),slice none 0 0] 48->∃a1 k3 k4,ao w5 ((Addr.mk s 0 none).add 2) [slice a1 k3 k4]/\Ad a1 n2 k3 fun d1=>(Hb w5 k2 #[string s1,iv n1,string (ByteArray.mk #[]),slice none 0 0] 48/\Hb w5 k1 #[string (ByteArray.mk #[]),iv 0,string (ByteArray.mk #[]),slice none 0 0] 48->∃s2,ao w5 ((d1.add (n2.toNat*4)).add 0) [string s2]/\∀w6,KpL [k2] w5 w6->Hb w6 k2 #[string s1,iv n1,string s2,slice none 0 0] 48/\Hb w6 k1 #[string (ByteArray.mk #[]),iv 0,string (ByteArray.mk #[]),slice none 0 0] 48->ag Zz 125 #[pK r] w6 fun e4 w7 =>
 ∃n3,e4=returned (iv n3)/\∃l4,KpL l4 w6 w7/\(af k2 l4/\af k1 l4)/\∃(P1:LP)(P2:LM),(Hb w7 k2 #[string s1,iv n1,string s2,slice none 0 0] 48/\Hb w7 k1 #[string (ByteArray.mk #[]),iv 0,string (ByteArray.mk #[]),slice none 0 0] 48->P1 [iv 0,string s1,iv n1,string s2,slice none 0 0] w7)/\∀n4 s3 n5 s4 a2 k5 k6 w8,Hb w8 k2 #[string s3,iv n5,string s4,slice a2 k5 k6] 48->P1 [iv n4,string s3,iv n5,string s4,slice a2 k5 k6] w8->(n4<n3->Hb w8 k2 #[string s3,iv n5,string s4,slice a2 k5 k6] 48/\Hb w8 k1 #[string (ByteArray.mk #[]),iv 0,string (ByteArray.mk #[]),slice none 0 0] 48->ag Zz 130 #[pK s,pK r,iv n2] w8 fun e5 w9 =>
 ∃a3 k7 k8,e5=returned (slice a3 k7 k8)/\∃l5,KpL l5 w8 w9/\(af k2 l5/\af k1 l5)/\∀w10,KpL [] w9 w10->Hb w10 k2 #[string s3,iv n5,string s4,slice a2 k5 k6] 48/\Hb w10 k1 #[string (ByteArray.mk #[]),iv 0,string (ByteArray.mk #[]),slice none 0 0] 48->ag Zz 132 #[pK r] w10 fun e6 w11 =>
 ∃a4 k9 k10,e6=returned (slice a4 k9 k10)/\∃l6,KpL l6 w10 w11/\(af k2 l6/\af k1 l6)/\(Hb w11 k2 #[string s3,iv n5,string s4,slice a2 k5 k6] 48/\Hb w11 k1 #[string (ByteArray.mk #[]),iv 0,string (ByteArray.mk #[]),slice none 0 0] 48->(ao w11 (Addr.mk k2 (0+3) none) [slice a2 k5 k6]/\True)/\∀k11,w11.heap.size<=k11->∀w12,KpL [] w11 w12->Hb w12 k11 #[slice a3 k7 k8,slice a4 k9 k10] 81/\Hb w12 k2 #[string s3,iv n5,string s4,slice a2 k5 k6] 48/\Hb w12 k1 #[string (ByteArray.mk #[]),iv 0,string (ByteArray.mk #[]),slice none 0 0] 48->Ev Zz (Builtin.append_ #[30,30] 30 #[slice a2 k5 k6,sK k11 1 1]) w12 fun y1 w13 =>
 ∃a5 k12 k13,y1=slice a5 k12 k13/\∃l7,KpL l7 w12 w13/\(af k11 l7/\af k2 l7/\af k1 l7)/\ar i64 (n4+1)/\∀w14,KpL [k2] w13 w14->Hb w14 k11 #[slice a3 k7 k8,slice a4 k9 k10] 81/\Hb w14 k2 #[string s3,iv n5,string s4,slice a5 k12 k13] 48/\Hb w14 k1 #[string (ByteArray.mk #[]),iv 0,string (ByteArray.mk #[]),slice none 0 0] 48->P1 [iv (n4+1),string s3,iv n5,string s4,slice a5 k12 k13] w14/\P2 [iv (n4+1),string s3,iv n5,string s4,slice a5 k12 k13] w14<P2 [iv n4,string s3,iv n5,string s4,slice a2 k5 k6] w8))/\(¬n4<n3->∀w15,KpL [k1] w8 w15->Hb w15 k2 #[string s3,iv n5,string s4,slice a2 k5 k6] 48/\Hb w15 k1 #[string s3,iv n5,string s4,slice a2 k5 k6] 48->R (returned (agg #[string s3,iv n5,string s4,slice a2 k5 k6])) w15))))):Calls Zz 66 #[pK s,pK r] w R :=
 fz { loops:=[⟨5,[27],[7]++rg 28 15,[5]⟩],muts:=rg 125 8,all:=true } [av (pK s),av (pK r)] Tryz.func66 h
theorem DH{s:Nat}
 (h :
 ag Zz 45 #[pK s] w fun e1 w1 =>
 ∃n1,e1=returned (iv n1)/\KpL [] w w1/\(n1≠0->R (returned (tuple #[slice none 0 0,iv n1])) w1)/\(¬n1≠0->∃a1 k1 k2,ao w1 ((Addr.mk s 0 none).add 2) [slice a1 k1 k2]/\Ev Zz (Instr.makeSlice (140:Nat) (iv (↑k1:Int)) (iv (↑k1:Int))) w1 fun y1 w2 =>
 ∃a2 k3 k4,y1=slice a2 k3 k4/\∃l1,KpL l1 w1 w2/\∃m1,ao w2 ((Addr.mk s 0 none).add 3) [map m1]/\Ev Zz (Instr.range 114 (map m1)) w2 fun y2 w3 =>
 ∃d1,y2=pointer (some d1)/\∃l2,KpL l2 w2 w3/\∃(P1:LP)(P2:LM),P1 [] w3/\∀w4,P1 [] w4->Ev Zz (Instr.next (pointer (some d1)) false 0) w4 fun y3 w5 =>
 (y3=tuple #[bv false]/\∃l3,KpL l3 w4 w5/\∃a3 k5 k6,ao w5 ((Addr.mk s 0 none).add 2) [slice a3 k5 k6]/\∃(P3:LP) (P4:LM),P3 [slice none 0 0,iv 0] w5/\∀a4 k7 k8 n2 w6,P3 [slice a4 k7 k8,iv n2] w6->(n2<(↑k5:Int)->Ad a3 n2 k5 fun d2=>∃s1 a5 k9 k10 a6 k11 k12 a7 k13 k14,ao w6 (d2.add (n2.toNat*4)) [string s1,slice a5 k9 k10,slice a6 k11 k12,slice a7 k13 k14]/\∀k15,w6.heap.size<=k15->Ad a2 n2 k3 fun d3=>∃a8 k16 k17,ao w6 (d3.add (n2.toNat*1)) [slice a8 k16 k17]/\(∀w7,KpL [] w6 w7->Hb w7 k15 #[string s1,slice a5 k9 k10,slice a6 k11 k12,slice a7 k13 k14] 60->ag Zz 69 #[slice a5 k9 k10,slice a6 k11 k12,slice a8 k16 k17] w7 fun e2 w8 =>
 ∃a9 k18 k19 a10 k20 k21 a11 k22 k23 n3,e2=returned (tuple #[agg #[slice a9 k18 k19,slice a10 k20 k21,slice a11 k22 k23],iv n3])/\KpL [] w7 w8/\∀k24,w8.heap.size<=k24->(n3≠0->∀w9,KpL [] w8 w9->Hb w9 k24 #[slice a9 k18 k19,slice a10 k20 k21,slice a11 k22 k23] 58/\Hb w9 k15 #[string s1,slice a5 k9 k10,slice a6 k11 k12,slice a7 k13 k14] 60->R (returned (tuple #[slice none 0 0,iv n3])) w9)/\(¬n3≠0->∀k25,w8.heap.size<=k25->∀w10,KpL [] w8 w10->Hb w10 k25 #[string s1,slice a9 k18 k19,slice a10 k20 k21,slice a11 k22 k23] 60/\Hb w10 k24 #[slice a9 k18 k19,slice a10 k20 k21,slice a11 k22 k23] 58/\Hb w10 k15 #[string s1,slice a5 k9 k10,slice a6 k11 k12,slice a7 k13 k14] 60->Ev Zz (Builtin.append_ #[23,23] 23 #[slice a4 k7 k8,sK k25 1 1]) w10 fun y4 w11 =>
 ∃a12 k26 k27,y4=slice a12 k26 k27/\∃l4,KpL l4 w10 w11/\(af k25 l4/\af k24 l4/\af k15 l4)/\ar i64 (n2+1)/\(Hb w11 k25 #[string s1,slice a9 k18 k19,slice a10 k20 k21,slice a11 k22 k23] 60/\Hb w11 k24 #[slice a9 k18 k19,slice a10 k20 k21,slice a11 k22 k23] 58/\Hb w11 k15 #[string s1,slice a5 k9 k10,slice a6 k11 k12,slice a7 k13 k14] 60->P3 [slice a12 k26 k27,iv (n2+1)] w11/\P4 [slice a12 k26 k27,iv (n2+1)] w11<P4 [slice a4 k7 k8,iv n2] w6)))/\∀k28,w6.heap.size<=k28->∀w12,KpL [] w6 w12->Hb w12 k28 #[slice none 0 0,slice none 0 0,slice none 0 0] 58/\Hb w12 k15 #[string s1,slice a5 k9 k10,slice a6 k11 k12,slice a7 k13 k14] 60->ag Zz 69 #[slice a5 k9 k10,slice a6 k11 k12,slice a8 k16 k17] w12 fun e3 w13 =>
 ∃a13 k29 k30 a14 k31 k32 a15 k33 k34 n4,e3=returned (tuple #[agg #[slice a13 k29 k30,slice a14 k31 k32,slice a15 k33 k34],iv n4])/\KpL [] w12 w13/\(n4≠0->∀w14,KpL [k28] w13 w14->Hb w14 k28 #[slice a13 k29 k30,slice a14 k31 k32,slice a15 k33 k34] 58/\Hb w14 k15 #[string s1,slice a5 k9 k10,slice a6 k11 k12,slice a7 k13 k14] 60->R (returned (tuple #[slice none 0 0,iv n4])) w14)/\(¬n4≠0->∀k35,w13.heap.size<=k35->∀w15,KpL [k28] w13 w15->Hb w15 k35 #[string s1,slice a13 k29 k30,slice a14 k31 k32,slice a15 k33 k34] 60/\Hb w15 k28 #[slice a13 k29 k30,slice a14 k31 k32,slice a15 k33 k34] 58/\Hb w15 k15 #[string s1,slice a5 k9 k10,slice a6 k11 k12,slice a7 k13 k14] 60->Ev Zz (Builtin.append_ #[23,23] 23 #[slice a4 k7 k8,sK k35 1 1]) w15 fun y5 w16 =>
 ∃a16 k36 k37,y5=slice a16 k36 k37/\∃l5,KpL l5 w15 w16/\(af k35 l5/\af k28 l5/\af k15 l5)/\ar i64 (n2+1)/\(Hb w16 k35 #[string s1,slice a13 k29 k30,slice a14 k31 k32,slice a15 k33 k34] 60/\Hb w16 k28 #[slice a13 k29 k30,slice a14 k31 k32,slice a15 k33 k34] 58/\Hb w16 k15 #[string s1,slice a5 k9 k10,slice a6 k11 k12,slice a7 k13 k14] 60->P3 [slice a16 k36 k37,iv (n2+1)] w16/\P4 [slice a16 k36 k37,iv (n2+1)] w16<P4 [slice a4 k7 k8,iv n2] w6)))/\(¬n2<(↑k5:Int)->R (returned (tuple #[slice a4 k7 k8,iv 0])) w6))∨
 (∃n5 n6 n7 n8 n9 n10 a17 k38 k39,y3=tuple #[bv true,agg #[iv n5,iv n6,iv n7,iv n8,iv n9],agg #[iv n10,slice a17 k38 k39]]/\∃l6,KpL l6 w4 w5/\Ev Zz (Instr.entry (pointer (some d1))) w5 fun y6 w17 =>
 ∃n11 n12 n13 n14 n15 n16 a18 k40 k41,y6=tuple #[agg #[iv n11,iv n12,iv n13,iv n14,iv n15],agg #[iv n16,slice a18 k40 k41]]/\∃l7,KpL l7 w5 w17/\∀k42,w17.heap.size<=k42->∀k43,w17.heap.size<=k43->((0:Int)<(↑k40:Int)->∃a19 k44 k45,ao w17 ((Addr.mk s 0 none).add 2) [slice a19 k44 k45]/\Ad a19 n11 k44 fun d4=>∃a20 k46 k47,ao w17 (((d4.add (n11.toNat*4)).add 1).add 0) [slice a20 k46 k47]/\Ad a2 n11 k3 fun d5=>∃a21 k48 k49,ao w17 (d5.add (n11.toNat*1)) [slice a21 k48 k49]/\∃a22 k50 k51,Pv Zz (Instr.sliceAt (141:Nat) (pointer (some (Addr.mk k42 ((0:Nat)+(1:Nat)) none))) none (some (iv (↑k46:Int))) none) (slice a22 k50 k51)/\∀w18,KpL [] w17 w18->Hb w18 k43 #[iv n16,slice a18 k40 k41] 145/\Hb w18 k42 #[iv n11,iv n12,iv n13,iv n14,iv n15] 143->ag Zz 68 #[slice a22 k50 k51] w18 fun e4 w19 =>
 ∃a23 k52 k53,e4=returned (slice a23 k52 k53)/\KpL [] w18 w19/\∀k54,w19.heap.size<=k54->∀w20,KpL [] w19 w20->Hb w20 k54 #[slice a23 k52 k53,slice a18 k40 k41] 147/\Hb w20 k43 #[iv n16,slice a18 k40 k41] 145/\Hb w20 k42 #[iv n11,iv n12,iv n13,iv n14,iv n15] 143->Ev Zz (Builtin.append_ #[56,56] 56 #[slice a21 k48 k49,sK k54 1 1]) w20 fun y7 w21 =>
 ∃a24 k55 k56,y7=slice a24 k55 k56/\∃l8,KpL l8 w20 w21/\(af k54 l8/\af k43 l8/\af k42 l8)/\(Hb w21 k54 #[slice a23 k52 k53,slice a18 k40 k41] 147/\Hb w21 k43 #[iv n16,slice a18 k40 k41] 145/\Hb w21 k42 #[iv n11,iv n12,iv n13,iv n14,iv n15] 143->(ao w21 (Addr.mk k42 (0+0) none) [iv n11]/\True)/\Ad a2 n11 k3 fun d6=>(Hb w21 k54 #[slice a23 k52 k53,slice a18 k40 k41] 147/\Hb w21 k43 #[iv n16,slice a18 k40 k41] 145/\Hb w21 k42 #[iv n11,iv n12,iv n13,iv n14,iv n15] 143->(∃l9,ao w21 (d6.add (n11.toNat*1)) l9/\l9.length=1)/\aq w21 (d6.add (n11.toNat*1)) 1/\(af k54 [(d6.add (n11.toNat*1)).block]/\af k43 [(d6.add (n11.toNat*1)).block]/\af k42 [(d6.add (n11.toNat*1)).block])/\∀w22,w22=bL w21 (d6.add (n11.toNat*1)) [slice a24 k55 k56] 0->Hb w22 k54 #[slice a23 k52 k53,slice a18 k40 k41] 147/\Hb w22 k43 #[iv n16,slice a18 k40 k41] 145/\Hb w22 k42 #[iv n11,iv n12,iv n13,iv n14,iv n15] 143->P1 [] w22/\P2 [] w22<P2 [] w4)))/\(¬(0:Int)<(↑k40:Int)->∀w23,KpL [] w17 w23->Hb w23 k43 #[iv n16,slice a18 k40 k41] 145/\Hb w23 k42 #[iv n11,iv n12,iv n13,iv n14,iv n15] 143->P1 [] w23/\P2 [] w23<P2 [] w4)))):Calls Zz 16 #[pK s] w R :=
 fz { loops:=[⟨13,[9,73],[2,3,10,11,12,13]++rg 74 29,[]⟩,⟨6,[],[6,7,8]++rg 30 38,[5]⟩],all:=true,ent:=[143,145] } [av (pK s)] Tryz.func16 h
end
end Go.Vc
namespace Go.Vc
open Go Go.Proofs
theorem Bc:oe Zz 23 23 60 4 88:=bM (by kernel_rfl)
def SC(w:World)(s l:Nat)(id:Int)(ra:Option Addr)(rn rc:Nat)(mo:Option Nat)(qa:Option Addr)(qn qc:Nat)(us:Int):Prop :=
 w.heap[s]?=some (.cells #[pK l,iv id,.slice ra rn rc,.map mo,.slice qa qn qc,iv us] 116 (0,0))
section
variable {w w':World} {s l:Nat} {id:Int} {ra:Option Addr} {rn rc:Nat} {mo:Option Nat} {qa:Option Addr} {qn qc:Nat} {us:Int} (h:SC w s l id ra rn rc mo qa qn qc us)
include h
theorem SC.keep{F:List Nat}(k:KpL F w w')(hs:s∉F):SC w' s l id ra rn rc mo qa qn qc us:=(k.blk s (ab h) hs).trans h
theorem SC.ld2:ao w ((⟨s,0,none⟩:Addr).add 2) [.slice ra rn rc]:=by rw[al];exact ak h 2 _ rfl
theorem SC.ld3:ao w ((⟨s,0,none⟩:Addr).add 3) [.map mo]:=by rw[al];exact ak h 3 _ rfl
theorem SC.ld4:ao w ((⟨s,0,none⟩:Addr).add 4) [.slice qa qn qc]:=by rw[al];exact ak h 4 _ rfl
theorem SC.ld5:ao w ((⟨s,0,none⟩:Addr).add 5) [iv us]:=by rw[al];exact ak h 5 _ rfl
theorem SC.kpS(i:Nat)(v:Value):KpL [s] w (bL w ((⟨s,0,none⟩:Addr).add i) [v] 0):=by rw[al];exact cK w ⟨s,0+i,none⟩ _
theorem SC.set2(a:Option Addr)(n c:Nat):SC (bL w ((⟨s,0,none⟩:Addr).add 2) [.slice a n c] 0) s l id a n c mo qa qn qc us:=by rw[al];exact cL (off:=2) (l:=[_]) h (by simp)
theorem SC.set3(m:Option Nat):SC (bL w ((⟨s,0,none⟩:Addr).add 3) [.map m] 0) s l id ra rn rc m qa qn qc us:=by rw[al];exact cL (off:=3) (l:=[_]) h (by simp)
theorem SC.set4(a:Option Addr)(n c:Nat):SC (bL w ((⟨s,0,none⟩:Addr).add 4) [.slice a n c] 0) s l id ra rn rc mo a n c us:=by rw[al];exact cL (off:=4) (l:=[_]) h (by simp)
theorem SC.set5(u:Int):SC (bL w ((⟨s,0,none⟩:Addr).add 5) [iv u] 0) s l id ra rn rc mo qa qn qc u:=by rw[al];exact cL (off:=5) (l:=[_]) h (by simp)
theorem SC.nf(i:Nat):aq w ((⟨s,0,none⟩:Addr).add i) 1:=by rw[al];exact bE h
end
theorem cg.to{N N' F:List Nat}{w w':World}{r:Nat}{bs:List Int}(h:cg N w r bs)(k:KpL F w w')(hr:r∉F)(hs:∀b∈F,b∈N∨w.heap.size<=b)(hn:∀b∈N',b∈N∨w.heap.size<=b):cg N' w' r bs:=h.step k hr hs hn
theorem sO{arrays:List Nm}{nb:Nat}{p:Pl×dE}(h:tY arrays nb p)(hs:∀x∈arrays,aV x.arr.dims x.arr.attrs=0)(ha:arrays.length<=1000):p.1.ok:=by
 obtain⟨h1,h2,h3,h4,h5,h6,_⟩:=h.dims hs
 have h0:=h.a0
 rw[<-h6]
 exact vY (ae.2 (by omega)) fun x hx=>ae.2 (by have:=h5 x hx;omega)
theorem rQ{κ β:Type}[DecidableEq κ]{l:List (κ×β)}{k:κ}{v:β}(h:k∉l.map (·.1)):dX l k v=l++[(k,v)]:=by
 unfold dX
 rw[if_neg]
 simp only[List.any_eq_true,decide_eq_true_eq,not_exists,not_and]
 intro x hx he
 exact h (List.mem_map.2 ⟨x,hx,he⟩)
set_option maxHeartbeats 8000000 in
theorem BO{M:List Nat}{w:World}{s r l d:Nat}{num nxt us:Int}{st:bg}(hs:SC w s l st.id none 0 0 none none 0 0 us)(hlog:aM w l d num nxt)(hM:∀b∈M,b<w.heap.size)(hsl:s≠l)(hsM:s∉M)(hlM:l∉M)(hrl:r≠l)(hrM:r∉M)(hsr:s≠r)
 (hrd:cg (s::M) w r (ap st.arrays st.batches st.places))(hv:dy st)(hid:ar .i64 st.id)(hus:ar .i64 us):
 Calls Zz 65 #[pK s,pK r] w fun e w'=>e=.returned (.tuple #[])/\KpL [r,s] w w'/\
  ∃F,aK M w' s l d num nxt { st with use:=1+8*st.arrays.length+3*st.places.length+st.batches.length } F/\∀b∈F,b=s∨b=l∨w.heap.size<=b:=by
 have hmx:az=140737488355328:=rfl
 have ha1:=hv.a1
 have han:=hv.an
 have hbn:=hv.bn
 have hpn:=hv.pn
 obtain⟨sid,arrays,ps,bs,use⟩:=st
 dsimp only at *
 have hll:=ab hlog
 have hsl':=ab hs
 have hrl':=hrd.lt
 unfold ap iC at hrd
 simp only[List.append_assoc]at hrd
 generalize hr3:bf (ps.length:Int)++ps.flatMap (dL arrays)=rest3 at *
 generalize hr2:bf (bs.length:Int)++(bs.flatMap dz++rest3)=rest2 at *
 have lenNm:∀x∈arrays,1<=(fS x).length:=fun x _=>by unfold fS;have:=kU x.name;simp only[List.length_append];omega
 have lenSeen:∀x∈bs,1<=(dz x).length:=fun x _=>by unfold dz;have:=kU x.token;simp only[List.length_append];omega
 have lenPs:∀x∈ps,1<=(dL arrays x).length:=fun x _=>by unfold dL;have:=nF (IntKind.u64.wrap x.1.a);simp only[List.length_append];omega
 have hMl:∀{w':World},KpL [r,s] w w'->∀b∈l::r::s::M,b<w'.heap.size:=by
  intro w' hk b hb
  have:=hk.size
  simp only[List.mem_cons]at hb
  rcases hb with rfl|rfl|rfl|hb
  ·omega
  ·omega
  ·omega
  ·have:=hM b hb;omega
 refine BK ⟨(dJ hrd (by rw[List.length_append];have:=ib lenNm;omega) (by omega)).mono ?_⟩
 rintro e w1 ⟨rfl,hw1,hD1⟩
 refine⟨_,rfl,_,hw1,fun vs w'=>∃(i:Nat) (a:Option Addr) (n c:Nat),vs=[iv (i:Int)]/\i<=arrays.length/\KpL [r,s] w w'/\SC w' s l sid a n c none none 0 0 us/\bI gG (l::r::s::M) w' (arrays.take i) a n c/\(∀b∈aj a,w.heap.size<=b)/\cg (aj a++s::M) w' r ((arrays.drop i).flatMap fS++rest2),
  fun vs _=>match vs with|[.int _ i]=>arrays.length - i.toNat|_=>0,⟨0,none,0,0,rfl,by omega,hw1.mono (by simp),hs.keep hw1 (by simpa using hsr),bI.nil' _ (hMl (hw1.mono (by simp))),by simp[aj],hD1⟩,?_⟩
 rintro n2 w2 ⟨i,a,n,c,hvs,hi,hk2,hs2,hA,hnew,hD2⟩
 simp only[List.cons.injEq,Value.int.injEq,true_and,and_true]at hvs
 subst hvs
 constructor
 ·intro hlt
  have gi:i<arrays.length:=by omega
  have hlA:=hA.len
  rw[List.length_take,Nat.min_eq_left hi]at hlA
  have htk:=List.take_append_getElem gi
  have hsch:=hv.sch _ (List.getElem_mem gi)
  have hnm:=bN (hv.nms _ (List.getElem_mem gi))
  have hcel:=hv.cel _ (List.getElem_mem gi)
  rw[List.drop_eq_getElem_cons gi,List.flatMap_cons,List.append_assoc]at hD2
  generalize hrX:(arrays.drop (i+1)).flatMap fS++rest2=restX at *
  generalize arrays[i]=x at *
  unfold fS at hD2
  simp only[List.append_assoc]at hD2
  have hsd:=cS hsch
  have h14:=dN hsd.1
  have hdi:=jt hsd.1
  have hai:=lC hsch
  generalize hrA:bf (x.arr.attrs.length:Int)++(x.arr.attrs.flatMap kh++restX)=restA at *
  have s2l:=hk2.size
  refine⟨(gD hD2 (by omega)).mono ?_⟩
  rintro e w3 ⟨rfl,hw3,hD3⟩
  have s3:=hw3.size
  refine⟨_,rfl,_,hw3,fun k1 hk1 w4 hw4 hkn4=>?_⟩
  have hk24:KpL [r] w2 w4:=hw3.trans (hw4.mono (by simp))
  have hD4:cg (k1::(aj a++s::M)) w4 r _:=(hD3.to hw4 (by simp) (by simp) (N':=k1::(aj a++s::M)) fun b hb=>(List.mem_cons.1 hb).elim (fun h=>.inr (by omega)) .inl)
  have k1r:k1≠r:=by have:=hD2.lt;omega
  refine⟨(dJ hD4 (by rw[List.length_append];have:=ib (f:=mX) (l:=x.arr.dims) (fun d _=>by unfold mX;have:=kU d.name;simp only[List.length_append];omega);omega) (by omega)).mono ?_⟩
  rintro e w5 ⟨rfl,hw5,hD5⟩
  have hk25:=hk24.trans hw5
  have hk1l:=ab hkn4
  have s45:=hw5.size
  have hKl5:∀b∈k1::(aj a++l::r::s::M),b<w5.heap.size:=by
   intro b hb
   rcases List.mem_cons.1 hb with rfl|hb
   ·omega
   ·rcases List.mem_append.1 hb with hb|hb
    ·have:=(hA.blk_lt b hb).1;have:=hk25.size;omega
    ·have:=hA.mlt b hb;have:=hk25.size;omega
  refine⟨_,rfl,_,hw5,⟨by simpa using k1r⟩,fun vs w'=>∃(j:Nat) (a1:Option Addr) (n1 c1:Nat),vs=[iv (j:Int),.string x.name,.slice a1 n1 c1,.slice none 0 0,.slice none 0 0]/\j<=x.arr.dims.length/\KpL [r] w2 w'/\k1<w'.heap.size/\cg (aj a1++(k1::(aj a++s::M))) w' r ((x.arr.dims.drop j).flatMap mX++restA)/\bI bY (k1::(aj a++l::r::s::M)) w' (x.arr.dims.take j) a1 n1 c1/\∀b∈aj a1,w2.heap.size<=b,
   fun vs _=>match vs with|.int _ i::_=>x.arr.dims.length - i.toNat|_=>0,fun _=>⟨0,none,0,0,rfl,by omega,hk25,by omega,hD5,bI.nil' _ hKl5,by simp[aj]⟩,?_⟩
  rintro n4 s2 a1 k2 k3 a2' k4 k5 a3' k6 k7 w6 hkn6 ⟨j,_,_,_,hvs,hj,hk26,hk1l6,hD6,hA6,hnew6⟩
  simp only[List.cons.injEq,Value.int.injEq,Value.string.injEq,Value.slice.injEq,true_and,and_true]at hvs
  obtain⟨rfl,rfl,⟨rfl,rfl,rfl⟩,⟨rfl,rfl,rfl⟩,⟨rfl,rfl,rfl⟩⟩:=hvs
  constructor
  ·intro hjl w7 hw7 _
   have gj:j<x.arr.dims.length:=by omega
   have hlA6:=hA6.len
   rw[List.length_take,Nat.min_eq_left hj]at hlA6
   have htj:=List.take_append_getElem gj
   have hdd:=hdi _ (List.getElem_mem gj)
   rw[List.drop_eq_getElem_cons gj,List.flatMap_cons,List.append_assoc]at hD6
   generalize hrD:(x.arr.dims.drop (j+1)).flatMap mX++restA=restD at *
   generalize x.arr.dims[j]=dd at *
   unfold mX at hD6
   simp only[List.append_assoc]at hD6
   have hd12:=bN hdd.1
   refine⟨(gD (hD6.kp0 hw7) (by omega)).mono ?_⟩
   rintro e w8 ⟨rfl,hw8,hD8⟩
   refine⟨_,rfl,_,hw8,⟨by simpa using k1r⟩,fun hkn8=>⟨⟨ak hkn8 1 _ rfl,trivial⟩,fun _=>⟨(eG hD8 (by omega) (by omega)).mono ?_⟩⟩⟩
   rintro e w9 ⟨rfl,hw9,hD9⟩
   refine⟨_,rfl,_,hw9,⟨by simpa using k1r⟩,fun hkn9=>⟨⟨ak hkn9 1 _ rfl,trivial⟩,fun _=>⟨(eG hD9 (by omega) (by omega)).mono ?_⟩⟩⟩
   rintro e w10 ⟨rfl,hw10,hD10⟩
   refine⟨_,rfl,_,hw10,⟨by simpa using k1r⟩,fun hkn10=>⟨⟨ak hkn10 1 _ rfl,trivial⟩,fun k8 hk8 w11 hw11 hkn11=>?_⟩⟩
   have hk611:KpL [r] w6 w11:=((((hw7.mono (by simp)).trans hw8).trans hw9).trans hw10).trans (hw11.mono (by simp))
   have hA11:=hA6.kp hk611 (by simp)
   have s611:=(((hw7.mono (by simp)).trans hw8).trans hw9).trans hw10 |>.size
   refine aD Fi hA11 hkn11.1 (⟨rfl,by show dd.name.size<=_;omega,ae.2 (by omega),ae.2 (by omega)⟩:R bY _ _ dd _) (by omega) fun a4 c4 w12 hC=>⟨_,_,_,rfl,_,hC.kp,⟨⟨fun hm=>by have:=(hA6.blk_lt _ hm).1;omega⟩,hA6.out (by simp)⟩,ae.2 (by omega),fun w13 hw13 hkn13=>⟨⟨j+1,a4,k2+1,c4,rfl,by omega,?_,ab hkn13.2,?_,?_,?_⟩,by dsimp only;omega⟩⟩
   ·exact((hk26.trans hk611).more hC.kp fun b hb=>.inr (hnew6 b hb)).more hw13 fun b hb=>.inr (by simp at hb;omega)
   ·rw[hrD]
    refine((hD10.kp0 hw11).to hC.kp (fun hm=>(hA6.blk_lt r hm).2 (by simp)) (fun b hb=>.inl (by simp[hb])) (N':=aj a4++(k1::(aj a++s::M))) fun b hb=>?_).to hw13 (by simpa using k1r.symm) (fun b hb=>.inl (by simp at hb;simp[hb])) fun b hb=>.inl hb
    rcases List.mem_append.1 hb with hb|hb
    ·exact(hC.own b hb).imp (fun h=>by simp[h]) id
    ·exact .inl (by(simp at hb ⊢;first|exact hb|exact .inr hb|exact .inr (.inr hb)|exact .inr (.inr (.inr hb))|exact .inr (.inr (.inr (.inr hb)))))
   ·rw[<-htj];exact hC.acc.kp hw13 (by simp)
   ·intro b hb
    rcases hC.own b hb with hb|hb
    ·exact hnew6 b hb
    ·have:=hk26.size;have:=hk611.size;omega
  intro hge _
  have hje:j=x.arr.dims.length:=by omega
  subst hje
  rw[List.take_length]at hA6
  rw[List.drop_length,List.flatMap_nil,List.nil_append,<-hrA]at hD6
  have hRd:=hA6.done (by have:=hA6.len;omega)
  refine⟨(dJ hD6 (by rw[List.length_append];have:=ib (f:=kh) (l:=x.arr.attrs) (fun d _=>by unfold kh;have:=kU d.name;simp only[List.length_append];omega);omega) (by omega)).mono ?_⟩
  rintro e w14 ⟨rfl,hw14,hD14⟩
  have s14:=hw14.size
  have hk214:=hk26.trans hw14
  refine⟨_,rfl,_,hw14,⟨by simpa using k1r⟩,fun vs w'=>∃(j:Nat) (a2:Option Addr) (n2 c2:Nat),vs=[iv (j:Int),.string x.name,.slice a1 k2 k3,.slice a2 n2 c2,.slice none 0 0]/\j<=x.arr.attrs.length/\KpL [r] w2 w'/\k1<w'.heap.size/\R (au bY) (aj a2++(k1::(aj a++l::r::s::M))) w' x.arr.dims [.slice a1 k2 k3]/\cg (aj a2++(k1::(aj a++s::M))) w' r ((x.arr.attrs.drop j).flatMap kh++restX)/\bI bw (k1::(aj a++l::r::s::M)) w' (x.arr.attrs.take j) a2 n2 c2/\∀b∈aj a2,w2.heap.size<=b,
   fun vs _=>match vs with|.int _ i::_=>x.arr.attrs.length - i.toNat|_=>0,fun _=>⟨0,none,0,0,rfl,by omega,hk214,by omega,(hRd.kp hw14 (by simp)),hD14.to (KpL.refl [] _) (by simp) (by simp) (fun b hb=>.inl (List.mem_append_right _ hb)),bI.nil' _ (fun b hb=>by have:=hA6.mlt b hb;omega),by simp[aj]⟩,?_⟩
  rintro n8 s4 a5 k11 k12 a6 k13 k14 a7 k15 k16 w15 hkn15 ⟨j,_,_,_,hvs,hj,hk215,hk1l15,hRd15,hD15,hA15,hnew15⟩
  simp only[List.cons.injEq,Value.int.injEq,Value.string.injEq,Value.slice.injEq,true_and,and_true]at hvs
  obtain⟨rfl,rfl,⟨rfl,rfl,rfl⟩,⟨rfl,rfl,rfl⟩,⟨rfl,rfl,rfl⟩⟩:=hvs
  constructor
  ·intro hjl w16 hw16 _
   have gj:j<x.arr.attrs.length:=by omega
   have hlA15:=hA15.len
   rw[List.length_take,Nat.min_eq_left hj]at hlA15
   have htj:=List.take_append_getElem gj
   have hdd:=hai _ (List.getElem_mem gj)
   rw[List.drop_eq_getElem_cons gj,List.flatMap_cons,List.append_assoc]at hD15
   generalize hrD:(x.arr.attrs.drop (j+1)).flatMap kh++restX=restD at *
   generalize x.arr.attrs[j]=dd at *
   unfold kh at hD15
   simp only[List.append_assoc]at hD15
   have hd12:=bN hdd.1
   refine⟨(gD (hD15.kp0 hw16) (by omega)).mono ?_⟩
   rintro e w17 ⟨rfl,hw17,hD17⟩
   refine⟨_,rfl,_,hw17,⟨by simpa using k1r⟩,fun hkn17=>⟨⟨ak hkn17 2 _ rfl,trivial⟩,fun _=>⟨(i7 hD17).mono ?_⟩⟩⟩
   rintro e w18 ⟨rfl,hw18,hD18,_⟩
   rw[show dd.type%256=dd.type from by omega]
   refine⟨_,rfl,_,hw18,⟨by simpa using k1r⟩,fun hkn18=>⟨⟨ak hkn18 2 _ rfl,trivial⟩,ae.2 (by omega),fun k17 hk17 w19 hw19 hkn19=>?_⟩⟩
   have hk1519:KpL [r] w15 w19:=(((hw16.mono (by simp)).trans hw17).trans hw18).trans (hw19.mono (by simp))
   have hA19:=hA15.kp hk1519 (by simp)
   have s1519:=((hw16.mono (by simp)).trans hw17).trans hw18 |>.size
   refine aD Fg hA19 hkn19.1 (⟨rfl,by show dd.name.size<=_;omega,ae.2 (by omega)⟩:R bw _ _ dd _) (by omega) fun a8 c8 w20 hC=>⟨_,_,_,rfl,_,hC.kp,⟨⟨fun hm=>by have:=(hA15.blk_lt _ hm).1;omega⟩,hA15.out (by simp)⟩,ae.2 (by omega),fun w21 hw21 hkn21=>⟨⟨j+1,a8,k13+1,c8,rfl,by omega,?_,ab hkn21.2,?_,?_,?_,?_⟩,by dsimp only;omega⟩⟩
   ·exact((hk215.trans hk1519).more hC.kp fun b hb=>.inr (hnew15 b hb)).more hw21 fun b hb=>.inr (by simp at hb;omega)
   ·refine((hRd15.kp hk1519 (by simp)).step hC.kp (fun b hb=>by simp[hb]) (M':=aj a8++(k1::(aj a++l::r::s::M))) fun b hb=>?_).kp hw21 (by simp)
    rcases List.mem_append.1 hb with hb|hb
    ·exact(hC.own b hb).imp (fun h=>by simp[h]) id
    ·exact .inl (by(simp at hb ⊢;first|exact hb|exact .inr hb|exact .inr (.inr hb)|exact .inr (.inr (.inr hb))|exact .inr (.inr (.inr (.inr hb)))))
   ·rw[hrD]
    refine((hD18.kp0 hw19).to hC.kp (fun hm=>(hA15.blk_lt r hm).2 (by simp)) (fun b hb=>.inl (by simp[hb])) (N':=aj a8++(k1::(aj a++s::M))) fun b hb=>?_).to hw21 (by simpa using k1r.symm) (fun b hb=>.inl (by simp at hb;simp[hb])) fun b hb=>.inl hb
    rcases List.mem_append.1 hb with hb|hb
    ·exact(hC.own b hb).imp (fun h=>by simp[h]) id
    ·exact .inl (by(simp at hb ⊢;first|exact hb|exact .inr hb|exact .inr (.inr hb)|exact .inr (.inr (.inr hb))|exact .inr (.inr (.inr (.inr hb)))))
   ·rw[<-htj];exact hC.acc.kp hw21 (by simp)
   ·intro b hb
    rcases hC.own b hb with hb|hb
    ·exact hnew15 b hb
    ·have:=hk215.size;have:=hk1519.size;omega
  intro hge2
  have hje:j=x.arr.attrs.length:=by omega
  subst hje
  rw[List.take_length]at hA15
  rw[List.drop_length,List.flatMap_nil,List.nil_append]at hD15
  have hRa:=hA15.done (by have:=hA15.len;omega)
  have hs15:=hs2.keep hk215 (by simpa using hsr)
  refine⟨_,_,_,hs15.ld2,fun k22 hk22 w22 hw22 hkn22=>?_⟩
  have hk222:KpL [r] w2 w22:=hk215.trans (hw22.mono (by simp))
  have hs22:=hs2.keep hk222 (by simpa using hsr)
  have hA22:=hA.kp hk222 (by simp)
  have hRx:R gG (aj a++l::r::s::M) w22 x [.string x.name,.slice a5 k11 k12,.slice a6 k13 k14,.slice none 0 0]:=by
   refine R.mkNm (by omega) ((hRd15.kp0 hw22).weak fun b hb=>by(simp at hb ⊢;first|exact hb|exact .inr hb|exact .inr (.inr hb)|exact .inr (.inr (.inr hb))|exact .inr (.inr (.inr (.inr hb))))) ((hRa.kp0 hw22).weak fun b hb=>by(simp at hb ⊢;first|exact hb|exact .inr hb|exact .inr (.inr hb)|exact .inr (.inr (.inr hb))|exact .inr (.inr (.inr (.inr hb))))) ?_
   rw[hcel];exact R.sl_nil _ _ _ _ _
  have hsA:s∉aj a:=fun hm=>(hA.blk_lt s hm).2 (by simp)
  have s222:=hk215.size
  refine aD Bc hA22 hkn22.1 hRx (by omega) fun a10 c10 w23 hC=>⟨_,_,_,rfl,_,hC.kp,⟨⟨fun hm=>by have:=(hA.blk_lt _ hm).1;omega⟩,⟨fun hm=>by have:=(hA.blk_lt _ hm).1;omega⟩⟩,fun hkn23=>?_⟩
  have hs23:=hs22.keep hC.kp hsA
  have hkS:=hs23.kpS 2 (.slice a10 (n+1) c10)
  refine⟨⟨_,hs23.ld2,rfl⟩,hs23.nf 2,⟨⟨by simp;omega⟩,⟨by simp;omega⟩⟩,?_⟩
  rintro w24 rfl
  refine⟨ae.2 (by omega),fun _=>⟨⟨i+1,a10,n+1,c10,rfl,by omega,?_,hs23.set2 _ _ _,?_,?_,?_⟩,by dsimp only;omega⟩⟩
  ·exact((hk2.trans (hk222.mono (by simp))).more hC.kp fun b hb=>.inr (hnew b hb)).trans (hkS.mono (by simp))
  ·rw[<-htk];exact hC.acc.kp hkS (by simp)
  ·intro b hb
   rcases hC.own b hb with hb|hb
   ·exact hnew b hb
   ·have:=hk222.size;omega
  ·rw[hrX]
   refine((hD15.kp0 hw22).to hC.kp (fun hm=>(hA.blk_lt r hm).2 (by simp)) (fun b hb=>.inl (by simp[hb])) (N':=aj a10++s::M) fun b hb=>?_).to hkS (by simpa using hsr.symm) (fun b hb=>.inl (by simp at hb;simp[hb])) fun b hb=>.inl hb
   rcases List.mem_append.1 hb with hb|hb
   ·exact(hC.own b hb).imp (fun h=>by simp[h]) id
   ·exact .inl (by(simp at hb ⊢;first|exact hb|exact .inr hb|exact .inr (.inr hb)|exact .inr (.inr (.inr hb))|exact .inr (.inr (.inr (.inr hb)))))
 intro hge
 have hie:i=arrays.length:=by omega
 subst hie
 rw[List.take_length]at hA
 rw[List.drop_length,List.flatMap_nil,List.nil_append,<-hr2]at hD2
 have hRa:=hA.done (by have:=hA.len;omega)
 refine⟨(dJ hD2 (by rw[List.length_append];have:=ib lenSeen;omega) (by omega)).mono ?_⟩
 rintro e w25 ⟨rfl,hw25,hD25⟩
 have hk25:KpL [r,s] w w25:=hk2.trans (hw25.mono (by simp))
 refine⟨_,rfl,_,hw25,fun vs w'=>∃(i:Nat) (q:Option Addr) (qn qc:Nat),vs=[iv (i:Int)]/\i<=bs.length/\KpL [r,s] w w'/\SC w' s l sid a n c none q qn qc us/\R (au gG) (aj q++l::r::s::M) w' arrays [.slice a n c]/\bI ij (l::r::s::M) w' (bs.take i) q qn qc/\(∀b∈aj q,w.heap.size<=b)/\cg (aj q++s::M) w' r ((bs.drop i).flatMap dz++rest3),
  fun vs _=>match vs with|[.int _ i]=>bs.length - i.toNat|_=>0,⟨0,none,0,0,rfl,by omega,hk25,hs2.keep hw25 (by simpa using hsr),hRa.kp hw25 (by simp),bI.nil' _ (hMl hk25),by simp[aj],hD25.to (KpL.refl [] _) (by simp) (by simp) (fun b hb=>.inl (List.mem_append_right _ hb))⟩,?_⟩
 rintro n11 w26 ⟨i,q,qn,qc,hvs,hi,hk26,hs26,hRa26,hA26,hnew26,hD26⟩
 simp only[List.cons.injEq,Value.int.injEq,true_and,and_true]at hvs
 subst hvs
 have s26:=hk26.size
 constructor
 ·intro hlt
  have gi:i<bs.length:=by omega
  have hlA:=hA26.len
  rw[List.length_take,Nat.min_eq_left hi]at hlA
  have htk:=List.take_append_getElem gi
  have hbx:=hv.bat _ (List.getElem_mem gi)
  rw[List.drop_eq_getElem_cons gi,List.flatMap_cons,List.append_assoc]at hD26
  generalize hrX:(bs.drop (i+1)).flatMap dz++rest3=restX at *
  generalize bs[i]=x at *
  unfold dz at hD26
  simp only[List.append_assoc]at hD26
  have hd12:=bN hbx.1
  refine⟨_,_,_,hs26.ld4,fun w27 hw27=>⟨(gD (hD26.kp0 hw27) (by omega)).mono ?_⟩⟩
  rintro e w28 ⟨rfl,hw28,hD28⟩
  have hk28:KpL [r] w26 w28:=(hw27.mono (by simp)).trans hw28
  refine⟨_,rfl,_,hw28,⟨(hs26.keep hk28 (by simpa using hsr)).ld4,trivial⟩,⟨(eG hD28 (by omega) (by omega)).mono ?_⟩⟩
  rintro e w29 ⟨rfl,hw29,hD29⟩
  have hk29:=hk28.trans hw29
  refine⟨_,rfl,_,hw29,⟨(hs26.keep hk29 (by simpa using hsr)).ld4,trivial⟩,fun k27 hk27 w30 hw30 hkn30=>?_⟩
  have hk30:KpL [r] w26 w30:=hk29.trans (hw30.mono (by simp))
  have hA30:=hA26.kp hk30 (by simp)
  have hs30:=hs26.keep hk30 (by simpa using hsr)
  have hsq:s∉aj q:=fun hm=>(hA26.blk_lt s hm).2 (by simp)
  have s29:=hk29.size
  refine aD A7 hA30 hkn30 (⟨rfl,by show x.token.size<=_;omega,ae.2 (by omega)⟩:R ij _ _ x _) (by omega) fun a12 c12 w31 hC=>⟨_,_,_,rfl,_,hC.kp,⟨fun hm=>by have:=(hA26.blk_lt _ hm).1;omega⟩,fun hkn31=>?_⟩
  have hs31:=hs30.keep hC.kp hsq
  have hkS:=hs31.kpS 4 (.slice a12 (qn+1) c12)
  refine⟨⟨_,hs31.ld4,rfl⟩,hs31.nf 4,⟨by simp;have:=ab hs26;omega⟩,?_⟩
  rintro w32 rfl
  refine⟨ae.2 (by omega),fun _=>⟨⟨i+1,a12,qn+1,c12,rfl,by omega,?_,hs31.set4 _ _ _,?_,?_,?_,?_⟩,by dsimp only;omega⟩⟩
  ·exact((hk26.trans (hk30.mono (by simp))).more hC.kp fun b hb=>.inr (hnew26 b hb)).trans (hkS.mono (by simp))
  ·refine((hRa26.kp hk30 (by simp)).step hC.kp (fun b hb=>by simp[hb]) (M':=aj a12++l::r::s::M) fun b hb=>?_).kp hkS (by simp)
   rcases List.mem_append.1 hb with hb|hb
   ·exact(hC.own b hb).imp (fun h=>by simp[h]) id
   ·exact .inl (by(simp at hb ⊢;first|exact hb|exact .inr hb|exact .inr (.inr hb)|exact .inr (.inr (.inr hb))|exact .inr (.inr (.inr (.inr hb)))))
  ·rw[<-htk];exact hC.acc.kp hkS (by simp)
  ·intro b hb
   rcases hC.own b hb with hb|hb
   ·exact hnew26 b hb
   ·have:=hk30.size;omega
  ·rw[hrX]
   refine((hD29.kp0 hw30).to hC.kp (fun hm=>(hA26.blk_lt r hm).2 (by simp)) (fun b hb=>.inl (by simp[hb])) (N':=aj a12++s::M) fun b hb=>?_).to hkS (by simpa using hsr.symm) (fun b hb=>.inl (by simp at hb;simp[hb])) fun b hb=>.inl hb
   rcases List.mem_append.1 hb with hb|hb
   ·exact(hC.own b hb).imp (fun h=>by simp[h]) id
   ·exact .inl (by(simp at hb ⊢;first|exact hb|exact .inr hb|exact .inr (.inr hb)|exact .inr (.inr (.inr hb))|exact .inr (.inr (.inr (.inr hb)))))
 intro hge2
 have hie:i=bs.length:=by omega
 subst hie
 rw[List.take_length]at hA26
 rw[List.drop_length,List.flatMap_nil,List.nil_append,<-hr3]at hD26
 have hMm:∀b∈s::l::r::(aj q++M),b<w26.heap.size:=by
  intro b hb
  simp only[List.mem_cons,List.mem_append]at hb
  rcases hb with rfl|rfl|rfl|hb|hb
  ·exact ab hs26
  ·omega
  ·omega
  ·exact(hA26.blk_lt b hb).1
  ·have:=hM b hb;omega
 refine eC (enc:=Pl.enc) (t:=jz) hMm fun w33 hm33 hw33=>⟨_,rfl,[],hw33,?_⟩
 generalize hmm:w26.heap.size=m at *
 have hs33:=hs26.keep hw33 (by simp)
 have hkS:=hs33.kpS 3 (.map (some m))
 refine⟨⟨_,hs33.ld3,rfl⟩,hs33.nf 3,?_⟩
 rintro w34 rfl
 have hs34:=hs33.set3 (some m)
 generalize hw34:bL w33 ((⟨s,0,none⟩:Addr).add 3) [.map (some m)] 0=w34 at *
 have hD34:cg (m::(aj q++s::M)) w34 r _:=(hD26.to hw33 (by simp) (by simp) (N':=m::(aj q++s::M)) (fun b hb=>(List.mem_cons.1 hb).elim (fun h=>.inr (by omega)) .inl)).to hkS (by simpa using hsr.symm) (fun b hb=>.inl (by simp at hb;simp[hb])) fun b hb=>.inl hb
 have hk34:KpL [r,s] w w34:=(hk26.trans (hw33.mono (by simp))).trans (hkS.mono (by simp))
 have hmlt:m<w33.heap.size:=hm33.lt
 have hk33s:KpL [s] w26 w34:=(hw33.mono (by simp)).trans hkS
 have hRa34:R (au gG) (m::(aj q++l::r::s::M)) w34 arrays [.slice a n c]:=hRa26.step hk33s (by simp) fun b hb=>(List.mem_cons.1 hb).elim (fun h=>.inr (by omega)) .inl
 have hA34:bI ij (m::l::r::s::M) w34 bs q qn qc:=hA26.step hk33s (by simp) fun b hb=>by
  have:=hkS.size
  rcases List.mem_cons.1 hb with rfl|hb
  ·exact⟨.inr (by omega),by omega⟩
  ·exact⟨.inl hb,hMl hk34 b hb⟩
 have hm34:=hm33.step hkS (by simp) fun b hb=>.inl hb
 refine⟨(dJ hD34 (by have:=ib lenPs;omega) (by omega)).mono ?_⟩
 rintro e w35 ⟨rfl,hw35,hD35⟩
 have mr:m≠r:=by omega
 refine⟨_,rfl,_,hw35,fun vs w'=>∃(i:Nat),vs=[iv (i:Int)]/\i<=ps.length/\KpL [r,s] w w'/\SC w' s l sid a n c (some m) q qn qc us/\R (au gG) (m::(aj q++l::r::s::M)) w' arrays [.slice a n c]/\bI ij (m::l::r::s::M) w' bs q qn qc/\cZ Pl.enc jz (s::l::r::(aj q++M)) w' m (ps.take i)/\cg (m::(aj q++s::M)) w' r ((ps.drop i).flatMap (dL arrays)),
  fun vs _=>match vs with|[.int _ i]=>ps.length - i.toNat|_=>0,⟨0,rfl,by omega,hk34.trans (hw35.mono (by simp)),hs34.keep hw35 (by simpa using hsr),hRa34.kp hw35 (by simp),hA34.kp hw35 (by simp),hm34.step hw35 (by simp) (fun b hb=>.inl hb),hD35⟩,?_⟩
 rintro n14 w36 ⟨i,hvs,hi,hk36,hs36,hRa36,hA36,hm36,hD36⟩
 simp only[List.cons.injEq,Value.int.injEq,true_and,and_true]at hvs
 subst hvs
 have s36:=hk36.size
 constructor
 ·intro hlt
  have gi:i<ps.length:=by omega
  have htk:=List.take_append_getElem gi
  have hp:tY arrays bs.length ps[i]:=hv.pls _ (List.getElem_mem gi)
  have hnotin:ps[i].1∉(ps.take i).map (·.1):=by
   intro hm
   have hnd:=hv.keys
   rw[<-List.take_append_drop i ps,List.drop_eq_getElem_cons gi,List.map_append,List.map_cons,List.nodup_append]at hnd
   exact hnd.2.2 _ hm _ (by simp) rfl
  rw[List.drop_eq_getElem_cons gi,List.flatMap_cons]at hD36
  generalize hrX:(ps.drop (i+1)).flatMap (dL arrays)=restX at *
  generalize ps[i]=p at *
  obtain⟨g1,g2,g3,g4,g5,g6,g7,g8⟩:=hp.dims hv.sch
  have ga0:=hp.a0
  have gb0:=hp.b0
  have gb1:=hp.b1
  obtain⟨x,hx,_⟩:=hp.ex
  have gx:cY arrays p.1.a=x.arr.dims.length:=by unfold cY;rw[hx]
  unfold dL at hD36
  rw[aE (aJ.2 (by omega):ar .u64 p.1.a),aE (aJ.2 (by omega):ar .u64 p.2.batch)]at hD36
  simp only[List.append_assoc]at hD36
  generalize hatl:p.1.co.take (cY arrays p.1.a)=at_ at *
  obtain⟨hnl,_,_⟩:=hRa36.sl_len
  refine⟨(pO hs36 rfl hsr hD36 ga0 (by omega) (by omega)).mono ?_⟩
  rintro e w37 ⟨rfl,hw37,hD37⟩
  have hs37:=hs36.keep hw37 (by simpa using hsr)
  have hr36:=hD36.lt
  refine⟨_,rfl,_,hw37,⟨(AN (M:=[r]) (nm:=x) hs37 rfl hsr (hRa36.kp hw37 (by simp)) (by simp) (by simp;have:=hw37.size;omega) (by simp) hD37 ga0 hx (by omega) (by omega) g5).mono ?_⟩⟩
  rintro e w38 ⟨a13,k30,k31,rfl,hw38,hD38,hA38,hnew38⟩
  have hk38:=hw37.trans hw38
  refine⟨_,_,_,rfl,_,hw38,_,(hs36.keep hk38 (by simpa using hsr)).ld3,fun w39 hw39=>⟨(rj (x:=p.1.a) ((hA38.done (by have:=hA38.len;omega)).kp0 hw39) (by omega)).mono ?_⟩⟩
  rintro e w40 ⟨rfl,hw40⟩
  rw[g6]
  have hk40:KpL [r] w36 w40:=(hk38.trans (hw39.mono (by simp))).trans (hw40.mono (by simp))
  refine⟨p.1.a,p.1.p0,p.1.p1,p.1.p2,p.1.p3,rfl,hw40,⟨(fx (hD38.kp0 (hw39.trans hw40)) gb0 (by omega)).mono ?_⟩⟩
  rintro e w41 ⟨rfl,hw41,hD41⟩
  have hk41:=hk40.trans hw41
  have hMv:∀b∈m::s::l::r::(aj q++M),b<w41.heap.size:=by
   intro b hb
   have:=hk41.size
   rcases List.mem_cons.1 hb with rfl|hb
   ·have:=hm36.lt;omega
   ·have:=hm36.lt
    simp only[List.mem_cons,List.mem_append]at hb
    rcases hb with rfl|rfl|rfl|hb|hb
    ·have:=ab hs36;omega
    ·omega
    ·omega
    ·have:=(hA36.blk_lt b hb).1;omega
    ·have:=hM b hb;omega
  refine⟨_,rfl,_,hw41,⟨(hs36.keep hk41 (by simpa using hsr)).ld3,trivial⟩,⟨(nw hMv (by simp) hD41 (by omega) fun v hv'=>Vl.canon_of (g8 v hv')).mono ?_⟩⟩
  rintro e w42 ⟨a14,k32,k33,rfl,hw42,hD42,hA42,hnew42⟩
  have hk42:=hk41.trans hw42
  refine⟨_,_,_,rfl,_,hw42,⟨(hs36.keep hk42 (by simpa using hsr)).ld3,trivial⟩,?_⟩
  rw[aE (ae.2 (by omega))]
  have hm42:=hm36.step hk42 (by simp) fun b hb=>.inl hb
  have hsta:R jz (m::s::l::r::(aj q++M)) w42 p.2 [iv p.2.batch,.slice a14 k32 k33]:=R.mkSta (ae.2 (by omega)) (hA42.done (by have:=hA42.len;omega))
  refine dv (enc:=Pl.enc) (v:=p.2) mH qH hm42 p.1 hsta fun w43 hm43 hw43=>⟨rfl,[m],hw43,ae.2 (by omega),⟨i+1,rfl,by omega,?_,?_,?_,?_,?_,?_⟩,by dsimp only;omega⟩
  ·exact(hk36.trans (hk42.mono (by simp))).more hw43 (by simp;omega)
  ·exact(hs36.keep hk42 (by simpa using hsr)).keep hw43 (by simp;rintro rfl;exact hm36.mM (by simp))
  ·exact(hRa36.kp hk42 (by simp)).kp hw43 (by simp)
  ·exact(hA36.kp hk42 (by simp)).kp hw43 (by simp)
  ·rw[rQ hnotin]at hm43
   rw[<-htk];exact hm43
  ·rw[hrX]
   refine hD42.to hw43 (by simpa using mr.symm) (fun b hb=>.inl (by simp at hb;subst hb;simp)) fun b hb=>.inl ?_
   simp only[List.mem_append]
   exact .inr (.inr hb)
 intro hge3
 have hie:i=ps.length:=by omega
 subst hie
 rw[List.take_length]at hm36
 have hSt:fy M w36 s l ⟨sid,arrays,ps,bs,us⟩ m a n c q qn qc->True:=fun _=>trivial
 have hl36:aM w36 l d num nxt:=hlog.keep hk36 (by simp;exact⟨fun h=>hrl h.symm,fun h=>hsl h.symm⟩)
 have useI:∀u:Int,ar .i64 u->∀{w':World},SC w' s l sid a n c (some m) q qn qc u->KpL [s] w36 w'->fy M w' s l ⟨sid,arrays,ps,bs,u⟩ m a n c q qn qc:=by
  intro u hu w' hsc hk
  refine⟨hsc,(hRa36.kp hk (by simp)).weak (fun b hb=>by simp at hb ⊢;rcases hb with rfl|rfl|rfl|hb|hb<;>simp[*]),(hm36.step hk (by simp) fun b hb=>.inl (by simp at hb ⊢;rcases hb with rfl|rfl|hb|hb<;>simp[*])),(hA36.kp hk (by simp)).weak (fun b hb=>by simp at hb ⊢;rcases hb with rfl|rfl|rfl|hb<;>simp[*]),hsl,hsM,hlM,hid,hu,fun p hp=>sO (hv.pls p hp) hv.sch (by show arrays.length<=1000;omega)⟩
 refine⟨(gZ (st:=⟨sid,arrays,ps,bs,us⟩) ⟨m,a,n,c,q,qn,qc,useI us hus hs36 (KpL.refl _ _),hl36,rfl⟩ (by show arrays.length<=_;omega) (by show ps.length<=_;omega) (by show bs.length<=_;omega)).mono ?_⟩
 rintro e w44 ⟨rfl,hw44⟩
 have hs44:=hs36.keep hw44 (by simp)
 have hkS5:=hs44.kpS 5 (iv (1+8*(arrays.length:Int)+3*ps.length+bs.length))
 refine⟨_,rfl,hw44,⟨_,hs44.ld5,rfl⟩,hs44.nf 5,?_⟩
 rintro w45 rfl
 refine⟨rfl,(hk36.trans (hw44.mono (by simp))).trans (hkS5.mono (by simp)),_,⟨m,a,n,c,q,qn,qc,useI _ (ae.2 (by omega)) (hs44.set5 _) ((hw44.mono (by simp)).trans hkS5),(hl36.keep hw44 (by simp)).keep hkS5 (by simpa using hsl.symm),rfl⟩,fun b hb=>?_⟩
 simp only[List.mem_cons]at hb
 rcases hb with rfl|rfl|rfl|hb
 ·exact .inl rfl
 ·exact .inr (.inl rfl)
 ·exact .inr (.inr (by omega))
 ·exact .inr (.inr (hnew26 b hb))
end Go.Vc
namespace Go.Vc
open Go Go.Proofs
theorem rz{α:Type}{p:α->Bool}:∀(l:List α) (i:Int),0<=idxOf p l i->0<=i->∃x,l[(idxOf p l i - i).toNat]?=some x/\p x=true
 |[],i,h,_=>by simp[idxOf]at h
 |x::r,i,h,hi=>by
  unfold idxOf at h ⊢
  split
  ·rename_i hp;exact⟨x,by simp,hp⟩
  ·rename_i hp
   rw[if_neg hp]at h
   obtain⟨y,hy,hpy⟩:=rz r (i+1) h (by omega)
   have hlt:∀(l:List α) (i:Int),0<=idxOf p l i->i<=idxOf p l i:=by
    intro l
    induction l with
    |nil=>intro i h;simp[idxOf]at h
    |cons z r ih =>
     intro i h
     unfold idxOf at h ⊢
     split
     ·omega
     ·rename_i hz;rw[if_neg hz]at h;have:=ih _ h;omega
   have h1:=hlt r (i+1) h
   refine⟨y,?_,hpy⟩
   rw[show(idxOf p r (i+1) - i).toNat=(idxOf p r (i+1) - (i+1)).toNat+1 from by omega,List.getElem?_cons_succ]
   exact hy
theorem th{l:List Nm}{nm:ByteArray}(h:0<=aI l nm):∃x,l[(aI l nm).toNat]?=some x/\x.name=nm:=by
 obtain⟨x,h1,h2⟩:=rz (p:=fun x:Nm=>decide (x.name=nm)) l 0 h (by omega)
 refine⟨x,?_,by simpa using h2⟩
 rw[Int.sub_zero]at h1
 exact h1
theorem Et:oe Zz 30 30 81 2 48:=bM (by kernel_rfl)
set_option maxHeartbeats 4000000 in
theorem xE{M K F:List Nat}{w:World}{s r l d:Nat}{num nxt:Int}{st:bg}{b:Bt}(h:aK M w s l d num nxt st F)(hr:r∈M)(hK:∀x∈K,x<w.heap.size)(hrK:r∈K)(hrd:cg [] w r (cD st.arrays b))(hsch:∀x∈st.arrays,aV x.arr.dims x.arr.attrs=0)(han:st.arrays.length<=16)(hb:md st b):
 Calls Zz 66 #[pK s,pK r] w fun e w'=>∃ca cn cc,e=.returned (.agg #[.string b.token,iv b.stamp,.string b.array,.slice ca cn cc])/\KpL [r] w w'/\R (au aC) K w' b.changes [.slice ca cn cc]:=by
 have hmx:az=140737488355328:=rfl
 have htok:=bN hb.tok
 have hst0:=hb.s0
 have hst1:=hb.s1
 have hk0:=hb.k0
 have hc2:=hb.c2
 obtain⟨x,hx,hall⟩:=hb.arr
 obtain⟨x',hx',hxn⟩:=th hk0
 obtain rfl:x'=x:=by rw[hx]at hx';exact(Option.some.inj hx').symm
 have hkl:=gE st.arrays b.array
 have hxs:=hsch _ (List.mem_of_getElem? hx)
 unfold cD at hrd
 simp only[List.append_assoc]at hrd
 generalize hkk:aI st.arrays b.array=kk at *
 rw[aE (aJ.2 (by omega):ar .u64 kk)]at hrd
 generalize hrC:bf (b.changes.length:Int)++b.changes.flatMap iB=restC at *
 have lenC:∀c∈b.changes,1<=(iB c).length:=fun c _=>by unfold iB ee;have:=nF c.vals.length;simp only[List.length_append];omega
 obtain⟨m,ra,rn,rc,qa,qn,qc,hI,hl,rfl⟩:=h
 have hsr:s≠r:=fun e=>hI.sM (e▸hr)
 have hrA:r∈s::l::m::(aj qa++M):=by simp[hr]
 have hkx:kk.toNat<st.arrays.length:=by rw[List.getElem?_eq_some_iff]at hx;exact hx.1
 have hxe:st.arrays[kk.toNat]=x':=by rw[List.getElem?_eq_getElem hkx]at hx;exact Option.some.inj hx
 obtain⟨hrn,_,_⟩:=hI.arr.sl_len
 have hrl:=hrd.lt
 refine wT fun k1 hk1 w1 hw1 hkn1=>⟨(gD (hrd.kp0 hw1) (by omega)).mono ?_⟩
 rintro e w2 ⟨rfl,hw2,hD2⟩
 have k1r:k1≠r:=by omega
 refine⟨_,rfl,_,hw2,⟨by simpa using k1r⟩,fun hkn2=>⟨(eG hD2 (by omega) (by omega)).mono ?_⟩⟩
 rintro e w3 ⟨rfl,hw3,hD3⟩
 have hk3:KpL [r] w w3:=((hw1.mono (by simp)).trans hw2).trans hw3
 have hk1l:k1<w3.heap.size:=by have:=ab hkn2;have:=hw3.size;omega
 refine⟨_,rfl,_,hw3,⟨by simpa using k1r⟩,fun k2 hk2 w4 hw4 hkn4=>?_⟩
 have k2r:k2≠r:=by have:=hk3.size;omega
 have hk4:KpL [r] w w4:=hk3.trans (hw4.mono (by simp))
 have hs4:=(hk4.blk s (ab hI.hs) (by simpa using hsr)).trans hI.hs
 have hD4:cg [k2] w4 r _:=hD3.to hw4 (by simp) (by simp) (N':=[k2]) (fun y hy=>.inr (by simp at hy;omega))
 refine⟨(pO hs4 rfl hsr hD4 hk0 (by omega) (by omega)).mono ?_⟩
 rintro e w5 ⟨rfl,hw5,hD5⟩
 have hk5:=hk4.trans hw5
 have hR5:=hI.arr.kp hk5 (by simpa using hrA)
 obtain⟨ad,cs,hra,hv1,hldx,_,_,hpt⟩:=hR5.sl_get2 hkx
 rw[hxe]at hv1
 obtain⟨b1,p1,q1,b2,p2,q2,b3,p3,q3,rfl,_,_,_,_⟩:=hv1.nm
 have hs5:=(hk5.blk s (ab hI.hs) (by simpa using hsr)).trans hI.hs
 have hname:ao w5 ((ad.add (kk.toNat*4)).add 0) [.string b.array]:=by rw[<-hxn];exact hpt 0 [_] rfl
 have hk12:k1<k2:=by omega
 have s34:=hw4.size
 refine⟨_,rfl,_,hw5,⟨⟨by simpa using k2r⟩,⟨by simpa using k1r⟩⟩,fun hkn5=>⟨_,_,_,by rw[al];exact ak hs5 2 [_] rfl,ad,hra,hk0,by omega,fun _=>⟨_,hname,fun w6 hw6 hkn6=>?_⟩⟩⟩
 have k2l:=ab hkn6.1
 have hk6:KpL [r] w w6:=hk5.more hw6 fun y hy=>.inr (by simp at hy;have:=hk3.size;omega)
 have hD6:cg [k2] w6 r restC:=hD5.to hw6 (by simpa using k2r.symm) (by simp) (fun y hy=>.inl hy)
 rw[<-hrC]at hD6
 refine⟨(dJ hD6 (by have:=ib lenC;omega) (by omega)).mono ?_⟩
 rintro e w7 ⟨rfl,hw7,hD7⟩
 have hk7:=hk6.trans hw7
 have s7:=hw7.size
 have s56:=hw6.size
 have s45:=hw5.size
 have hKl:∀y∈k1::k2::K,y<w7.heap.size:=by
  intro y hy
  have:=hk7.size
  simp only[List.mem_cons]at hy
  rcases hy with rfl|rfl|hy
  ·omega
  ·omega
  ·have:=hK y hy;omega
 refine⟨_,rfl,_,hw7,⟨⟨by simpa using k2r⟩,⟨by simpa using k1r⟩⟩,fun vs w'=>∃(j:Nat) (a2:Option Addr) (n2 c2:Nat),vs=[iv (j:Int),.string b.token,iv b.stamp,.string b.array,.slice a2 n2 c2]/\j<=b.changes.length/\KpL [r] w w'/\k2<w'.heap.size/\cg (aj a2++[k2]) w' r ((b.changes.drop j).flatMap iB)/\bI aC (k1::k2::K) w' (b.changes.take j) a2 n2 c2/\(∀y∈aj a2,w.heap.size<=y)/\(∀y∈aj a2,y≠k1),
  fun vs _=>match vs with|.int _ i::_=>b.changes.length - i.toNat|_=>0,fun _=>⟨0,none,0,0,rfl,by omega,hk7,by omega,hD7,bI.nil' _ hKl,by simp[aj],by simp[aj]⟩,?_⟩
 rintro n4 s3 n5 s4 a2 k5 k6 w8 hkn8 ⟨j,_,_,_,hvs,hj,hk8,hk2l8,hD8,hA8,hnew8,hn18⟩
 simp only[List.cons.injEq,Value.int.injEq,Value.string.injEq,Value.slice.injEq,true_and,and_true]at hvs
 obtain⟨rfl,rfl,rfl,rfl,⟨rfl,rfl,rfl⟩⟩:=hvs
 have s8:=hk8.size
 constructor
 ·intro hjl hkn8'
  have hk1l8:=ab hkn8'.2
  have gj:j<b.changes.length:=by omega
  have hlA:=hA8.len
  rw[List.length_take,Nat.min_eq_left hj]at hlA
  have htk:=List.take_append_getElem gj
  have hce:=hall _ (List.getElem_mem gj)
  rw[List.drop_eq_getElem_cons gj,List.flatMap_cons]at hD8
  generalize hrX:(b.changes.drop (j+1)).flatMap iB=restX at *
  generalize b.changes[j]=c at *
  obtain⟨c1,c2,c3,c4⟩:=j5 hce
  obtain⟨c5,c6⟩:=kL c3
  have hsd:=cS hxs
  have h14:=dN hsd.1
  unfold iB at hD8
  simp only[List.append_assoc]at hD8
  have hs8:=(hk8.blk s (ab hI.hs) (by simpa using hsr)).trans hI.hs
  have hMl:∀{w':World},w8.heap.size<=w'.heap.size->∀y∈aj a2++(k1::k2::K),y<w'.heap.size:=by
   intro w' hle y hy
   rcases List.mem_append.1 hy with hy|hy
   ·have:=(hA8.blk_lt y hy).1;omega
   ·have:=hA8.mlt y hy;omega
  refine⟨(AN (M:=aj a2++(k1::k2::K)) hs8 rfl hsr (hI.arr.kp hk8 (by simpa using hrA)) hrA (hMl (Nat.le_refl _)) (by simp[hrK]) hD8 hk0 hx (by omega) (by omega) (qu c2 (fun d hdm=>(jt hsd.1 d hdm).2.1) c1)).mono ?_⟩
  rintro e w9 ⟨a3,k7,k8,rfl,hw9,hD9,hA9,hnew9⟩
  have s89:=hw9.size
  refine⟨_,_,_,rfl,_,hw9,⟨⟨by simpa using k2r⟩,⟨by simpa using k1r⟩⟩,fun w10 hw10 _=>⟨(nw (M:=aj a2++(k1::k2::K)) (hMl (by have:=hw10.size;omega)) (by simp[hrK]) (hD9.kp0 hw10) (by omega) fun v hv'=>Vl.canon_of (c6 v hv')).mono ?_⟩⟩
  rintro e w11 ⟨a4,k9,k10,rfl,hw11,hD11,hA11,hnew11⟩
  have hk811:KpL [r] w8 w11:=(hw9.trans (hw10.mono (by simp))).trans hw11
  have s811:=hk811.size
  refine⟨_,_,_,rfl,_,hw11,⟨⟨by simpa using k2r⟩,⟨by simpa using k1r⟩⟩,fun hkn11=>⟨⟨ak hkn11.1 3 _ rfl,trivial⟩,fun k11 hk11 w12 hw12 hkn12=>?_⟩⟩
  have hk812:KpL [r] w8 w12:=hk811.trans (hw12.mono (by simp))
  have hA12:=hA8.kp hk812 (by simp[hrK])
  have hR3:R (au (tI .i64)) (aj a2++(k1::k2::K)) w12 c.at_ [.slice a3 k7 k8]:=(((hA9.done (by have:=hA9.len;omega)).kp0 hw10).kp hw11 (by simp[hrK])).kp0 hw12
  have hR4:R (au cv) (aj a2++(k1::k2::K)) w12 c.vals [.slice a4 k9 k10]:=(hA11.done (by have:=hA11.len;omega)).kp0 hw12
  refine aD Et hA12 hkn12.1 (R.mkCell hR3 hR4) (by omega) fun a5 c5' w13 hC=>⟨_,_,_,rfl,_,hC.kp,⟨⟨fun hm=>by have:=(hA8.blk_lt _ hm).1;omega⟩,hA8.out (by simp),⟨fun hm=>hn18 _ hm rfl⟩⟩,ae.2 (by omega),fun w14 hw14 hkn14=>⟨⟨j+1,a5,k5+1,c5',rfl,by omega,?_,ab hkn14.2.1,?_,?_,?_,?_⟩,by dsimp only;omega⟩⟩
  ·refine((hk8.trans hk812).more hC.kp fun y hy=>.inr (hnew8 y hy)).more hw14 fun y hy=>.inr (by simp at hy;have:=hk3.size;omega)
  ·rw[hrX]
   refine((hD11.kp0 hw12).to hC.kp (fun hm=>(hA8.blk_lt r hm).2 (by simp[hrK])) (fun y hy=>.inl (by simp[hy])) (N':=aj a5++[k2]) fun y hy=>?_).to hw14 (by simpa using k2r.symm) (fun y hy=>.inl (by simp at hy;simp[hy])) fun y hy=>.inl hy
   rcases List.mem_append.1 hy with hy|hy
   ·exact(hC.own y hy).imp (fun h=>by simp[h]) id
   ·exact .inl (by simp at hy;simp[hy])
  ·rw[<-htk];exact hC.acc.kp hw14 (by simp)
  ·intro y hy
   rcases hC.own y hy with hy|hy
   ·exact hnew8 y hy
   ·have:=hw12.size;omega
  ·intro y hy
   rcases hC.own y hy with hy|hy
   ·exact hn18 y hy
   ·have:=hw12.size;omega
 ·intro hjg w15 hw15 hkn15
  have hje:j=b.changes.length:=by omega
  subst hje
  rw[List.take_length]at hA8
  have hk1l8:w.heap.size<=k1:=by omega
  refine⟨_,_,_,rfl,hk8.more hw15 fun y hy=>.inr (by simp at hy;omega),?_⟩
  have hRc:=hA8.done (by have:=hA8.len;omega)
  exact(hRc.kp hw15 (by simp)).weak fun y hy=>by simp[hy]
end Go.Vc
namespace Go.Vc
open Go Go.Proofs
open Go.Value Go.Ending Go.IntKind
set_option maxRecDepth 100000
section
variable{w:World}{R:Ending->World->Prop}
theorem rF{d:Nat}
 (h :
 ag Zz 62 #[pK d] w fun e1 w1 =>
 ∃b1,e1=returned (bv b1)/\KpL [] w w1/\((!b1)=true->R (returned (tuple #[pointer none,iv 1])) w1)/\((!b1)=false->∃b2,ao w1 ((Addr.mk d 0 none).add 5) [bv b2]/\(b2=true->R (returned (tuple #[pointer none,iv 17])) w1)/\(b2=false->ag Zz 63 #[pK d] w1 fun e2 w2 =>
 ∃a1 n1,e2=returned (tuple #[pointer a1,iv n1])/\KpL [] w1 w2/\(n1≠0->R (returned (tuple #[pointer none,iv n1])) w2)/\(¬n1≠0->∃d1,a1=some d1/\∃n2,ao w2 (d1.add 1) [int u64 n2]/\(n2=0->R (returned (tuple #[pointer none,iv 7])) w2)/\(¬n2=0->Ev Zz (Instr.box 116 (agg #[pointer a1,iv 0,slice none 0 0,map none,slice none 0 0,iv 0])) w2 fun y1 w3 =>
 ∃d2,y1=pointer (some d2)/\∃l1,KpL l1 w2 w3/\∃(P1:LP)(P2:LM),P1 [] w3/\∀w4,P1 [] w4->∃d3,a1=some d3/\∃n3,ao w4 (d3.add 2) [iv n3]/\ag Zz 64 #[pointer a1,iv n3] w4 fun e3 w5 =>
 ∃n4 a2 k1 k2 n5 n6,e3=returned (tuple #[int u8 n4,slice a2 k1 k2,iv n5,iv n6])/\∃l2,KpL l2 w4 w5/\(n6≠0->R (returned (tuple #[pointer none,iv n6])) w5)/\(¬n6≠0->(n4=0->∃m1,ao w5 (d2.add 3) [map m1]/\(m1=none->R (returned (tuple #[pointer none,iv 7])) w5)/\(¬m1=none->∃d4,a1=some d4/\∃n7,ao w5 (d4.add 2) [iv n7]/\ag Zz 57 #[pointer a1,iv n7] w5 fun e4 w6 =>
 ∃n8,e4=returned (iv n8)/\∃l3,KpL l3 w5 w6/\(n8≠0->R (returned (tuple #[pointer none,iv n8])) w6)/\(¬n8≠0->ag Zz 67 #[pointer (some d2)] w6 fun e5 w7 =>
 ∃a3,e5=returned (pointer a3)/\∃l4,KpL l4 w6 w7/\R (returned (tuple #[pointer a3,iv 0])) w7)))/\(¬n4=0->(n4=1->∃m2,ao w5 (d2.add 3) [map m2]/\(m2=none->∀k3,w5.heap.size<=k3->∀w8,KpL [] w5 w8->Hb w8 k3 #[slice a2 k1 k2] 137->ag Zz 65 #[pointer (some d2),pK k3] w8 fun e6 w9 =>
 e6=returned (tuple #[])/\∃l5,KpL l5 w8 w9/\∃d5,a1=some d5/\(∃l6,ao w9 (d5.add 2) l6/\l6.length=1)/\aq w9 (d5.add 2) 1/\∀w10,w10=bL w9 (d5.add 2) [iv n5] 0->P1 [] w10/\P2 [] w10<P2 [] w4)/\(¬m2=none->(n4=2->∃m3,ao w5 (d2.add 3) [map m3]/\(¬m3=none->∀k4,w5.heap.size<=k4->∀w11,KpL [] w5 w11->Hb w11 k4 #[slice a2 k1 k2] 137->ag Zz 66 #[pointer (some d2),pK k4] w11 fun e7 w12 =>
 ∃s1 n9 s2 a4 k5 k6,e7=returned (agg #[string s1,iv n9,string s2,slice a4 k5 k6])/\∃l7,KpL l7 w11 w12/\ag Zz 54 (#[pointer (some d2),agg #[string s1,iv n9,string s2,slice a4 k5 k6]]) w12 fun e8 w13 =>
 e8=returned (tuple #[])/\∃l8,KpL l8 w12 w13/\∃d6,a1=some d6/\(∃l9,ao w13 (d6.add 2) l9/\l9.length=1)/\aq w13 (d6.add 2) 1/\∀w14,w14=bL w13 (d6.add 2) [iv n5] 0->P1 [] w14/\P2 [] w14<P2 [] w4)/\(¬¬m3=none->R (returned (tuple #[pointer none,iv 7])) w5))/\(¬n4=2->R (returned (tuple #[pointer none,iv 7])) w5)))/\(¬n4=1->(n4=2->∃m4,ao w5 (d2.add 3) [map m4]/\(¬m4=none->∀k7,w5.heap.size<=k7->∀w15,KpL [] w5 w15->Hb w15 k7 #[slice a2 k1 k2] 137->ag Zz 66 #[pointer (some d2),pK k7] w15 fun e9 w16 =>
 ∃s3 n10 s4 a5 k8 k9,e9=returned (agg #[string s3,iv n10,string s4,slice a5 k8 k9])/\∃l10,KpL l10 w15 w16/\ag Zz 54 (#[pointer (some d2),agg #[string s3,iv n10,string s4,slice a5 k8 k9]]) w16 fun e10 w17 =>
 e10=returned (tuple #[])/\∃l11,KpL l11 w16 w17/\∃d7,a1=some d7/\(∃l12,ao w17 (d7.add 2) l12/\l12.length=1)/\aq w17 (d7.add 2) 1/\∀w18,w18=bL w17 (d7.add 2) [iv n5] 0->P1 [] w18/\P2 [] w18<P2 [] w4)/\(¬¬m4=none->R (returned (tuple #[pointer none,iv 7])) w5))/\(¬n4=2->R (returned (tuple #[pointer none,iv 7])) w5))))))))):Calls Zz 15 #[pK d] w R :=
 fz { loops:=[⟨11,[],[2,3,7,8,9,10]++rg 39 54,[4]⟩],muts:=[65,66,54,64,57,67],all:=true,lim:=3 } [av (pK d)] Tryz.func15 h
theorem my{s:Nat}
 (h :
 ∀k1,w.heap.size<=k1->∀w1,KpL [] w w1->Hb w1 k1 #[pK s] 41->ag Zz 45 #[pK s] w1 fun e1 w2 =>
 ∃n1,e1=returned (iv n1)/\KpL [] w1 w2/\(n1≠0->Hb w2 k1 #[pK s] 41->R (returned (iv n1)) w2)/\(¬n1≠0->∃a1,ao w2 ((Addr.mk s 0 none).add 0) [pointer a1]/\∃d1,a1=some d1/\∃a2,ao w2 (d1.add 0) [pointer a2]/\∃a3,ao w2 ((Addr.mk s 0 none).add 0) [pointer a3]/\∃d2,a3=some d2/\∃n2,ao w2 (d2.add 1) [int u64 n2]/\(∀w3,KpL [] w2 w3->Hb w3 k1 #[pK s] 41->Ev Zz (Instr.box 121 (agg #[pointer a2,int u64 (u64.wrap (n2+1)),iv 0])) w3 fun y1 w4 =>
 ∃d3,y1=pointer (some d3)/\∃l1,KpL l1 w3 w4/\af k1 l1/\∀k2,w4.heap.size<=k2->∀k3,w4.heap.size<=k3->∀w5,KpL [] w4 w5->Hb w5 k3 #[func (Fn.func 56) #[] #[pK k2],func (Fn.func 58) #[] #[pK k2,pK k1],func (Fn.func 60) #[pointer (some d3)] #[]] 49/\Hb w5 k2 #[pointer (some d3)] 113/\Hb w5 k1 #[pK s] 41->ag Zz 55 #[sK k3 3 3] w5 fun e2 w6 =>
 ∃n3,e2=returned (iv n3)/\∃l2,KpL l2 w5 w6/\(af k2 l2/\af k1 l2)/\(n3≠0->Hb w6 k2 #[pointer (some d3)] 113/\Hb w6 k1 #[pK s] 41->ag Zz 51 #[pK s,iv n3] w6 fun e3 w7 =>
 ∃n4,e3=returned (iv n4)/\∃l3,KpL l3 w6 w7/\(af k2 l3/\af k1 l3)/\(Hb w7 k2 #[pointer (some d3)] 113/\Hb w7 k1 #[pK s] 41->R (returned (iv n4)) w7))/\(¬n3≠0->∀w8,KpL [] w6 w8->Hb w8 k2 #[pointer (some d3)] 113/\Hb w8 k1 #[pK s] 41->ag Zz 61 #[pK s] w8 fun e4 w9 =>
 ∃n5,e4=returned (iv n5)/\KpL [] w8 w9/\(Hb w9 k2 #[pointer (some d3)] 113/\Hb w9 k1 #[pK s] 41->(∃l4,ao w9 ((Addr.mk s 0 none).add 0) l4/\l4.length=1)/\aq w9 ((Addr.mk s 0 none).add 0) 1/\(af k2 [s]/\af k1 [s])/\∀w10,w10=bL w9 ((Addr.mk s 0 none).add 0) [pointer (some d3)] 0->Hb w10 k2 #[pointer (some d3)] 113/\Hb w10 k1 #[pK s] 41->(ao w10 (Addr.mk k1 0 none) [pK s]/\True)/\(Hb w10 k2 #[pointer (some d3)] 113/\Hb w10 k1 #[pK s] 41->(∃l5,ao w10 ((Addr.mk s 0 none).add 5) l5/\l5.length=1)/\aq w10 ((Addr.mk s 0 none).add 5) 1/\(af k2 [s]/\af k1 [s])/\∀w11,w11=bL w10 ((Addr.mk s 0 none).add 5) [iv n5] 0->Hb w11 k2 #[pointer (some d3)] 113/\Hb w11 k1 #[pK s] 41->R (returned (iv 0)) w11))))/\∀k4,w2.heap.size<=k4->∀w12,KpL [] w2 w12->Hb w12 k4 #[pointer none] 113/\Hb w12 k1 #[pK s] 41->Ev Zz (Instr.box 121 (agg #[pointer a2,int u64 (u64.wrap (n2+1)),iv 0])) w12 fun y2 w13 =>
 ∃d4,y2=pointer (some d4)/\∃l6,KpL l6 w12 w13/\(af k4 l6/\af k1 l6)/\∀k5,w13.heap.size<=k5->∀w14,KpL [k4] w13 w14->Hb w14 k5 #[func (Fn.func 56) #[] #[pK k4],func (Fn.func 58) #[] #[pK k4,pK k1],func (Fn.func 60) #[pointer (some d4)] #[]] 49/\Hb w14 k4 #[pointer (some d4)] 113/\Hb w14 k1 #[pK s] 41->ag Zz 55 #[sK k5 3 3] w14 fun e5 w15 =>
 ∃n6,e5=returned (iv n6)/\∃l7,KpL l7 w14 w15/\(af k4 l7/\af k1 l7)/\(n6≠0->Hb w15 k4 #[pointer (some d4)] 113/\Hb w15 k1 #[pK s] 41->ag Zz 51 #[pK s,iv n6] w15 fun e6 w16 =>
 ∃n7,e6=returned (iv n7)/\∃l8,KpL l8 w15 w16/\(af k4 l8/\af k1 l8)/\(Hb w16 k4 #[pointer (some d4)] 113/\Hb w16 k1 #[pK s] 41->R (returned (iv n7)) w16))/\(¬n6≠0->∀w17,KpL [] w15 w17->Hb w17 k4 #[pointer (some d4)] 113/\Hb w17 k1 #[pK s] 41->ag Zz 61 #[pK s] w17 fun e7 w18 =>
 ∃n8,e7=returned (iv n8)/\KpL [] w17 w18/\(Hb w18 k4 #[pointer (some d4)] 113/\Hb w18 k1 #[pK s] 41->(∃l9,ao w18 ((Addr.mk s 0 none).add 0) l9/\l9.length=1)/\aq w18 ((Addr.mk s 0 none).add 0) 1/\(af k4 [s]/\af k1 [s])/\∀w19,w19=bL w18 ((Addr.mk s 0 none).add 0) [pointer (some d4)] 0->Hb w19 k4 #[pointer (some d4)] 113/\Hb w19 k1 #[pK s] 41->(ao w19 (Addr.mk k1 0 none) [pK s]/\True)/\(Hb w19 k4 #[pointer (some d4)] 113/\Hb w19 k1 #[pK s] 41->(∃l10,ao w19 ((Addr.mk s 0 none).add 5) l10/\l10.length=1)/\aq w19 ((Addr.mk s 0 none).add 5) 1/\(af k4 [s]/\af k1 [s])/\∀w20,w20=bL w19 ((Addr.mk s 0 none).add 5) [iv n8] 0->Hb w20 k4 #[pointer (some d4)] 113/\Hb w20 k1 #[pK s] 41->R (returned (iv 0)) w20))))):Calls Zz 14 #[pK s] w R :=
 fz { muts:=[55,51],all:=true,lim:=2 } [av (pK s)] Tryz.func14 h
end
end Go.Vc
namespace Go.Vc
open Go Go.Proofs
theorem nX{P:Program}{T:TypeId}{cs:Array Value}{w:World}{Q:Value->World->Prop}
 (h:∀w',w'.heap[w.heap.size]?=some (.cells cs T (0,0))->KpL [] w w'->Q (.pointer (some ⟨w.heap.size,0,none⟩)) w'):Ev P (Instr.box T (.agg cs)) w Q:=by
 refine⟨_,w.alloc (.cells cs T (0,0)),?_,h _ ?_ ((KpL.refl _ _).alloc _)⟩
 ·simp only[Instr.box,newVar,newRow,Sem.run_bind,run_newObj,Result.andThen_ok,Sem.run_pure]
  rfl
 ·show(w.heap.push _)[w.heap.size]?=_
  simp
def xY(k:Dk)(num:Int):Nat->List (Int×List Int)->Nat->Prop
 |i,[],e=>e=i/\(k.readRec num i).1=0/\(k.readRec num i).2.2.2=0
 |i,q::r,e=>∃nx,k.readRec num i=(q.1,q.2,nx,0)/\i<nx/\nx<=k.half/\xY k num nx r e
def bG(arrays:List Nm)(bs:List bH)(ps:List (Pl×dE)):bg:=⟨0,arrays,ps,bs,1+8*arrays.length+3*ps.length+bs.length⟩
def bg.commits(st:bg)(l:List Bt):bg:=l.foldl bg.commit st
structure Dd (arrays:List Nm) (j:Nat) (st:bg):Prop where
 arr:st.arrays=arrays
 bn:st.batches.length<=1000+j
 pb:∀p∈st.places,0<=p.2.batch/\p.2.batch<=st.batches.length
 u0:0<=st.use
 u1:st.use<=100000+50*j
theorem Dd.commit{arrays:List Nm}{j:Nat}{st:bg}{b:Bt}(h:Dd arrays j st)(hb:md st b):Dd arrays (j+1) (st.commit b):=by
 have h2:=hb.c2
 refine⟨h.arr,by show(st.batches++[b.seen]).length<=_;have:=h.bn;simp;omega,fun p hp=>?_,by show 0<=st.use+b.weight;have:=h.u0;unfold Bt.weight;omega,by show st.use+b.weight<=_;have:=h.u1;unfold Bt.weight;omega⟩
 have hl:((st.commit b).batches.length:Nat)=st.batches.length+1:=by show(st.batches++[b.seen]).length=_;simp
 rw[hl]
 rcases js (show p∈dp (st.batches++[b.seen]) (st.batches.length+1:Nat) (aI st.arrays b.array) st.places b.changes from hp) with ⟨c,_,rfl⟩|hp
 ·simp;omega
 ·have:=h.pb p hp;omega
theorem md.of_arr{st st':bg}{b:Bt}(h:md st b)(e:st'.arrays=st.arrays):md st' b:=by
 obtain⟨a1,a2,a3,a4,a5,a6,a7,a8⟩:=h
 exact⟨a1,a2,a3,by rw[e];exact a4,a5,a6,by rw[e];exact a7,by rw[e];exact a8⟩
def D9(l h:Nat)(w:World):Nat:=match w.heap[l]? with
 |some (Obj.cells arr _ _)=>match arr[2]? with
  |some (Value.int _ n)=>h+1 - n.toNat
  |_=>0
 |_=>0
theorem qh{w:World}{l d h n:Nat}{num:Int}(hl:aM w l d num n):D9 l h w=h+1 - n:=by
 unfold D9
 unfold aM at hl
 rw[hl]
 rfl
theorem aM.ld1{w:World}{l d:Nat}{num nxt:Int}(h:aM w l d num nxt):ao w ((⟨l,0,none⟩:Addr).add 1) [.int .u64 num]:=by rw[al];exact ak h 1 _ rfl
theorem aM.ld2{w:World}{l d:Nat}{num nxt:Int}(h:aM w l d num nxt):ao w ((⟨l,0,none⟩:Addr).add 2) [iv nxt]:=by rw[al];exact ak h 2 _ rfl
theorem aM.set2{w:World}{l d:Nat}{num nxt:Int}(h:aM w l d num nxt)(n:Int):aM (bL w ((⟨l,0,none⟩:Addr).add 2) [iv n] 0) l d num n:=by rw[al];exact cL (off:=2) (l:=[_]) h (by simp)
theorem aM.kp2{w:World}{l d:Nat}{num nxt:Int}(_:aM w l d num nxt)(n:Int):KpL [l] w (bL w ((⟨l,0,none⟩:Addr).add 2) [iv n] 0):=by rw[al];exact cK w ⟨l,0+2,none⟩ _
theorem aK.next{M F:List Nat}{w w':World}{s l d:Nat}{num nxt nxt':Int}{st:bg}(h:aK M w s l d num nxt st F)(hk:KpL [l] w w')(hl:aM w' l d num nxt'):aK M w' s l d num nxt' st F:=by
 obtain⟨m,ra,rn,rc,qa,qn,qc,hI,hl0,rfl⟩:=h
 have hI':fy ([]++M) w s l st m ra rn rc qa qn qc:=hI
 exact⟨m,ra,rn,rc,qa,qn,qc,hI'.stepL (Fd:=[]) hk (fun b hb=>⟨.inl hb,by have:=hI.mlt b hb;have:=hk.size;omega⟩) (ab hl0),hl,rfl⟩
set_option maxHeartbeats 4000000 in
theorem AR{M Fd:List Nat}{w:World}{d:Nat}{k:Dk}{arrays:List Nm}{bs:List bH}{ps:List (Pl×dE)}{bt:List Bt}{e:Nat}(h:bz M w d k Fd)(h2:2<=k.n)(hdn:k.down=false)(hpl:k.pend.length<=1000000)(hnz:k.newest≠0)(hnum:0<=k.newest)
 (hst:ar .i64 ((k.clear k.newest e).2.st+1))(hrec:xY k k.newest 0 ((1,ap arrays bs ps)::bt.map fun b=>(2,cD arrays b)) e)(hv:dy (bG arrays bs ps))(hb:∀b∈bt,md (bG arrays bs ps) b)(hbl:bt.length<=1000):
 Calls Zz 15 #[pK d] w fun en w' =>
  if (k.clear k.newest e).1≠0 then en=.returned (.tuple #[.pointer none,iv (k.clear k.newest e).1])/\∃Fd',bz M w' d (k.clear k.newest e).2 Fd'/\ci Fd w Fd' w'
  else ∃s l F Fd',en=.returned (.tuple #[pK s,iv 0])/\bU M w' s l d k.newest e { (bG arrays bs ps).commits bt with id:=(k.clear k.newest e).2.st+1 } { (k.clear k.newest e).2 with st:=(k.clear k.newest e).2.st+1 } F Fd'/\ci Fd w (F++Fd') w':=by
 have hmx:az=140737488355328:=rfl
 obtain⟨ss,hs1,hs2,hs3⟩:=h.ok.secs
 have hhalf:=k.half_le
 have hMl:=h.mlt
 have hFl:=h.own_lt
 refine rF ⟨(gg h).mono ?_⟩
 rintro en w1 ⟨rfl,hw1⟩
 refine⟨_,rfl,hw1,fun hc=>by simp at hc,fun _=>⟨k.down,(h.kp0 hw1).cell.1,fun hc=>(by rw[hdn]at hc;cases hc),fun _=>⟨(pC (h.kp0 hw1) h2).mono ?_⟩⟩⟩
 rintro en w2 ⟨hw2,hres⟩
 rw[if_neg (by simp[hdn])]at hres
 obtain⟨l,rfl,hl2,hlnew,hnI⟩:=hres
 have hk02:=hw1.trans hw2
 generalize hN:k.newest=num at *
 have s02:=hk02.size
 have s1:=hw1.size
 refine⟨_,_,rfl,hw2,fun hc=>absurd rfl hc,fun _=>⟨⟨l,0,none⟩,rfl,num,hl2.ld1,fun hc=>absurd hc hnz,fun _=>nX fun w3 hs3' hw3=>⟨_,rfl,[],hw3,?_⟩⟩⟩
 have hk03:=hk02.trans hw3
 generalize hss:w2.heap.size=s at *
 have hll2:=ab hl2
 have hsl:s≠l:=by omega
 have hl3:=hl2.keep hw3 (by simp)
 have hs3'':SC w3 s l 0 none 0 0 none none 0 0 0:=hs3'
 have hFM:∀b∈Fd++M,b<w.heap.size:=by
  intro b hb
  rcases List.mem_append.1 hb with hb|hb
  ·exact(hFl b hb).1
  ·exact hMl b hb
 have hsM:s∉Fd++M:=fun hm=>by have:=hFM s hm;omega
 have hlM:l∉Fd++M:=fun hm=>by have:=hFM l hm;omega
 have hslt:=ab hs3'
 let A:World->Prop:=fun w'=>SC w' s l 0 none 0 0 none none 0 0 0/\aM w' l d num (0:Nat)
 let B:World->Prop:=fun w'=>∃(j i:Nat) (F:List Nat),j<=bt.length/\i<=k.half/\aK (Fd++M) w' s l d num i ((bG arrays bs ps).commits (bt.take j)) F/\Dd arrays j ((bG arrays bs ps).commits (bt.take j))/\(∀b∈F,w.heap.size<=b)/\xY k num i ((bt.drop j).map fun b=>(2,cD arrays b)) e
 refine⟨fun _ w'=>KpL [] w w'/\(A w'∨B w'),fun _ w'=>D9 l k.half w',⟨hk03,.inl ⟨hs3'',hl3⟩⟩,?_⟩
 rintro w4 ⟨hk04,hAB⟩
 have s04:=hk04.size
 have hdk:∀{w':World} {F:List Nat},KpL [] w w'->(∀b∈F,w.heap.size<=b)->(∀b∈F,b<w'.heap.size)->bz (F++M) w' d k Fd:=by
  intro w' F hk hF hF'
  refine h.step hk (by simp) fun b hb=>?_
  rcases List.mem_append.1 hb with hb|hb
  ·exact⟨.inr (hF b hb),hF' b hb⟩
  ·exact⟨.inl hb,by have:=hMl b hb;have:=hk.size;omega⟩
 have hD4:bz ([]++M) w4 d k Fd:=hdk hk04 (by simp) (by simp)
 rcases hAB with ⟨hsA,hlA⟩|⟨j,i,F,hj,hi,hSt,hJ,hFn,hR⟩
 ·obtain⟨nx,hrr,hnx1,hnx2,hR⟩:=hrec
  have hNl:∀b∈s::l::(Fd++M),b<w4.heap.size:=by
   intro b hb
   simp only[List.mem_cons]at hb
   rcases hb with rfl|rfl|hb
   ·exact ab hsA
   ·exact ab hlA
   ·have:=hFM b hb;omega
  refine⟨_,rfl,_,hlA.ld2,⟨(rH (N:=s::l::(Fd++M)) hD4 hlA h2 hnum hNl (i:=0) (by omega)).mono ?_⟩⟩
  rw[hrr]
  rintro en w5 ⟨a,n,c,rfl,hw5,hRb⟩
  have hs5:=hsA.keep hw5 (by simp)
  refine⟨_,_,_,_,_,_,rfl,_,hw5,fun hc=>absurd rfl hc,fun _=>⟨fun hc=>by simp at hc,fun _=>⟨fun _=>⟨_,hs5.ld3,fun _ k3 hk3 w8 hw8 hkn8=>?_,fun hc=>absurd rfl hc⟩,fun hc=>absurd rfl hc⟩⟩⟩
  have hl8:=(hlA.keep hw5 (by simp)).keep hw8 (by simp)
  have s5:=hw5.size
  have s8:=hw8.size
  have hrd:cg (s::(Fd++M)) w8 k3 (ap arrays bs ps):=⟨a,n,c,137,hkn8,(hRb.fresh hw8 (N:=[k3]) (by simpa using hk3)).weak fun b hb=>by simp at hb ⊢;rcases hb with rfl|rfl|hb|hb<;>simp[*]⟩
  have hsl5:=ab hs5
  have hll5:=ab (hlA.keep hw5 (by simp))
  refine⟨(BO (st:=bG arrays bs ps) (hs5.keep hw8 (by simp)) hl8 (fun b hb=>by have:=hFM b hb;omega) hsl hsM hlM (by omega) (fun hm=>by have:=hFM k3 hm;omega) (by omega) hrd hv (ae.2 (by show(-_:Int)<=(0:Int)/\(0:Int)<=_;omega)) (ae.2 (by omega))).mono ?_⟩
  rintro en w9 ⟨rfl,hw9,F,hSt,hF⟩
  have hk08:=(hk04.trans hw5).trans hw8
  have hl9:=hSt.log
  have hk09:KpL [] w w9:=hk08.more hw9 fun b hb=>.inr (by simp at hb;rcases hb with rfl|rfl<;>omega)
  refine⟨rfl,_,hw9,⟨l,0,none⟩,rfl,⟨_,hl9.ld2,rfl⟩,by rw[al];exact bE hl9,?_⟩
  rintro w10 rfl
  have hk10:=hl9.kp2 (nx:Int)
  have hF':∀b∈F,w.heap.size<=b:=fun b hb=>by
   rcases hF b hb with rfl|rfl|hb
   ·omega
   ·omega
   ·have:=hk08.size;omega
  refine⟨⟨hk09.more hk10 fun b hb=>.inr (by simp at hb;omega),.inr ⟨0,nx,F,by omega,hnx2,hSt.next hk10 (hl9.set2 _),⟨rfl,by show bs.length<=_;have:=hv.bn;exact this,fun p hp=>?_,?_,?_⟩,hF',by simpa using hR⟩⟩,?_⟩
  ·have:=hv.pls p hp
   exact⟨this.b0,this.b1⟩
  ·show(0:Int)<=1+8*arrays.length+3*ps.length+bs.length;omega
  ·have h1:=hv.an
   have h2:=hv.pn
   have h3:=hv.bn
   have h1':arrays.length<=16:=h1
   have h2':ps.length<=4000:=h2
   have h3':bs.length<=1000:=h3
   show(1+8*(arrays.length:Int)+3*ps.length+bs.length)<=_;omega
  ·show D9 l k.half (bL w9 ((⟨l,0,none⟩:Addr).add 2) [iv (nx:Int)] 0)<D9 l k.half w4
   rw[qh (hl9.set2 (nx:Int)),qh hlA];omega
 ·have hlB:=hSt.log
  have hsB:∀{w':World},KpL [] w4 w'->∃m,ao w' ((⟨s,0,none⟩:Addr).add 3) [.map (some m)]:=fun hk=>by
   obtain⟨m,ra,rn,rc,qa,qn,qc,hI,_,_⟩:=hSt
   exact⟨m,by rw[al];exact ak ((hk.blk s (ab hI.hs) (by simp)).trans hI.hs) 3 _ rfl⟩
  have hDF:bz (F++M) w4 d k Fd:=hdk hk04 hFn fun b hb=>(hSt.own_lt b hb).1
  have hNl:∀b∈F++(Fd++M),b<w4.heap.size:=by
   intro b hb
   rcases List.mem_append.1 hb with hb|hb
   ·exact(hSt.own_lt b hb).1
   ·have:=hFM b hb;omega
  refine⟨_,rfl,_,hlB.ld2,⟨(rH (N:=F++(Fd++M)) hDF hlB h2 hnum hNl (i:=i) (by omega)).mono ?_⟩⟩
  rintro en w5 ⟨a,n,c,rfl,hw5,hRb⟩
  obtain⟨m,hm5⟩:=hsB hw5
  have s5:=hw5.size
  cases hbd:bt.drop j with
  |nil =>
   rw[hbd]at hR
   obtain⟨rfl,hq0,he0⟩:=hR
   have hje:bt.take j=bt:=List.take_of_length_le (by have:=congrArg List.length hbd;simp at this;omega)
   rw[hje]at hSt
   refine⟨_,_,_,_,_,_,rfl,_,hw5,fun hc=>absurd he0 hc,fun _=>⟨fun _=>⟨_,hm5,fun hc=>(by cases hc),fun _=>⟨_,rfl,_,(hlB.keep hw5 (by simp)).ld2,⟨(pF (hDF.kp0 hw5) (hlB.keep hw5 (by simp)) (List.mem_append_left _ hSt.lF) h2 hnum (by omega) hpl).mono ?_⟩⟩⟩,fun hc=>absurd hq0 hc⟩⟩
   rintro en w6 ⟨rfl,Fd',hD6,hO6⟩
   have hOw:ci Fd w Fd' w6:=(ci.of0 (hk04.trans hw5)).trans hO6
   refine⟨_,rfl,_,hO6.kp,fun hne=>?_,fun hz=>?_⟩
   ·rw[if_pos hne]
    exact⟨rfl,Fd',hD6.weak fun b hb=>by simp[hb],hOw⟩
   have hSt6:aK (Fd'++M) w6 s l d num e ((bG arrays bs ps).commits bt) F:=(hSt.kp0 hw5).step hO6.kp (fun b hb=>by simp[hb]) fun b hb=>by
    rcases List.mem_append.1 hb with hb|hb
    ·exact⟨(hO6.new b hb).imp (fun h=>by simp[h]) id,(hD6.own_lt b hb).1⟩
    ·exact⟨.inl (by simp[hb]),hD6.mlt b (by simp[hb])⟩
   refine⟨(oZ hSt6 hD6 hst).mono ?_⟩
   rintro en w7 ⟨rfl,hS7,hD7,hO7⟩
   refine⟨_,rfl,_,hO7.kp,?_⟩
   rw[if_neg hz]
   refine⟨s,l,F,Fd',rfl,⟨hS7,hD7⟩,?_⟩
   refine⟨hOw.kp.more hO7.kp fun b hb=>?_,fun b hb=>?_⟩
   ·rcases List.mem_append.1 hb with hb|hb
    ·exact .inr (hFn b hb)
    ·exact hOw.new b hb
   ·rcases List.mem_append.1 hb with hb|hb
    ·exact .inr (hFn b hb)
    ·exact hOw.new b hb
  |cons b br =>
   rw[hbd,List.map_cons]at hR
   obtain⟨nx,hrr,hnx1,hnx2,hR⟩:=hR
   rw[hrr]at hRb ⊢
   have hjl:j<bt.length:=by have:=congrArg List.length hbd;simp at this;omega
   have hbj:bt[j]=b:=by rw[List.drop_eq_getElem_cons hjl]at hbd;exact(List.cons.inj hbd).1
   have hbr:bt.drop (j+1)=br:=by rw[List.drop_eq_getElem_cons hjl]at hbd;exact(List.cons.inj hbd).2
   have htk:bt.take (j+1)=bt.take j++[b]:=by rw[<-hbj,List.take_append_getElem hjl]
   have hbo:=hb b (by rw[<-hbj];exact List.getElem_mem hjl)
   generalize hsj:(bG arrays bs ps).commits (bt.take j)=stj at *
   have hbo':md stj b:=hbo.of_arr hJ.arr
   have hnext:(bG arrays bs ps).commits (bt.take (j+1))=stj.commit b:=by
    rw[htk]
    unfold bg.commits at hsj ⊢
    rw[List.foldl_append,hsj]
    rfl
   refine⟨_,_,_,_,_,_,rfl,_,hw5,fun hc=>absurd rfl hc,fun _=>⟨fun hc=>by simp at hc,fun _=>⟨fun hc=>by simp at hc,fun _=>⟨fun _=>⟨_,hm5,fun _ k7 hk7 w15 hw15 hkn15=>?_,fun hc=>absurd (by simp) hc⟩,fun hc=>absurd rfl hc⟩⟩⟩⟩
   have s15:=hw15.size
   have hk415:KpL [] w4 w15:=hw5.trans hw15
   have k7l:=ab hkn15
   have hS15:aK (k7::(Fd++M)) w15 s l d num i stj F:=hSt.step hk415 (by simp) fun x hx=>by
    rcases List.mem_cons.1 hx with rfl|hx
    ·exact⟨.inr (by omega),k7l⟩
    ·exact⟨.inl hx,by have:=hFM x hx;omega⟩
   have hrd:cg [] w15 k7 (cD stj.arrays b):=by
    rw[hJ.arr]
    exact⟨a,n,c,137,hkn15,(hRb.fresh hw15 (N:=[k7]) (by simpa using hk7)).weak fun x hx=>by simp at hx;simp[hx]⟩
   have hsch:∀x∈stj.arrays,aV x.arr.dims x.arr.attrs=0:=by rw[hJ.arr];exact hv.sch
   have han:stj.arrays.length<=16:=by rw[hJ.arr];exact hv.an
   have hKl:∀x∈F++[k7],x<w15.heap.size:=by
    intro x hx
    rcases List.mem_append.1 hx with hx|hx
    ·have:=(hSt.own_lt x hx).1;omega
    ·simp at hx;omega
   refine⟨(xE (K:=F++[k7]) hS15 (by simp) hKl (by simp) hrd hsch han hbo').mono ?_⟩
   rintro en w16 ⟨ca,cn,cc,rfl,hw16,hRc⟩
   have hS16:=hS15.step (M':=k7::(Fd++M)) hw16 (by simp) fun x hx=>⟨.inl hx,by have:=hS15.mlt x hx;have:=hw16.size;omega⟩
   obtain⟨x,hx,hall⟩:=hbo'.arr
   have hchg:=fun c hcm=>jX (hsch x (List.mem_of_getElem? hx)) (hall c hcm)
   have htk12:=bN hbo'.tok
   have c2:=hbo'.c2
   have t0:=hbo'.s0
   have t1:=hbo'.s1
   have u0:=hJ.u0
   have u1:=hJ.u1
   have bn:=hJ.bn
   refine⟨_,_,_,_,_,_,rfl,_,hw16,⟨(nL hS16 hRc (by omega) (ae.2 (by omega)) (by omega) (fun c hcm=>⟨(hchg c hcm).1,by have:=(hchg c hcm).2.1;omega⟩) (by omega) hJ.pb (ae.2 (by have:=hbo'.k0;have:=gE stj.arrays b.array;omega)) ⟨u0,by omega⟩).mono ?_⟩⟩
   rintro en w17 ⟨rfl,F',hS17,hO17⟩
   have hl17:=hS17.log
   refine⟨rfl,_,hO17.kp,⟨l,0,none⟩,rfl,⟨_,hl17.ld2,rfl⟩,by rw[al];exact bE hl17,?_⟩
   rintro w18 rfl
   have hk18:=hl17.kp2 (nx:Int)
   have hkw16:KpL [] w w16:=(hk04.trans hk415).more hw16 fun y hy=>.inr (by simp at hy;omega)
   have s16:=hkw16.size
   have hF':∀y∈F',w.heap.size<=y:=fun y hy=>(hO17.new y hy).elim (hFn y) fun h=>by omega
   refine⟨⟨(hkw16.more hO17.kp fun y hy=>.inr (hFn y hy)).more hk18 fun y hy=>.inr (by simp at hy;omega),.inr ⟨j+1,nx,F',by omega,hnx2,?_,?_,hF',by rw[hbr];exact hR⟩⟩,?_⟩
   ·rw[hnext]
    exact(hS17.weak fun y hy=>by simp only[List.mem_cons];exact .inr hy).next hk18 (hl17.set2 _)
   ·rw[hnext]
    exact hJ.commit hbo'
   ·show D9 l k.half (bL w17 ((⟨l,0,none⟩:Addr).add 2) [iv (nx:Int)] 0)<D9 l k.half w4
    rw[qh (hl17.set2 (nx:Int)),qh hlB];omega
end Go.Vc
namespace Go.Vc
open Go Go.Proofs
open Go.Value Go.Ending Go.IntKind
set_option maxRecDepth 100000
section
variable{w:World}{R:Ending->World->Prop}
theorem xN{v l:Nat}
 (hk:Hb w v #[pK l] 113)
 (h :
 Hb w v #[pK l] 113->ag Zz 57 #[pK l,iv 0] w fun e1 w1 =>
 ∃n1,e1=returned (iv n1)/\∃l1,KpL l1 w w1/\af v l1/\(Hb w1 v #[pK l] 113->R (returned (iv n1)) w1)):Calls Zz 56 #[pK v] w R :=
 dD (an:={ muts:=[57],all:=true }) (args:=[.a (.c (.loc 0 0))]) (rho:=[v]) (hp:=[(0,113,[.v (pK l)])]) aS Tryz.func56 (by kernel_rfl) rfl rfl hk (by simp) (by simpa using ab hk) rfl (by simp) h
theorem BQ{v l sv s:Nat}
 (hk:Hb w v #[pK l] 113/\Hb w sv #[pK s] 41)
 (hnd:([v,sv]:List Nat).Nodup)(hlt:∀b∈([v,sv]:List Nat),b<w.heap.size)
 (h :
 ∀w1,KpL [] w w1->Hb w1 v #[pK l] 113/\Hb w1 sv #[pK s] 41->ag Zz 59 #[pK s] w1 fun e1 w2 =>
 ∃a1 k1 k2,e1=returned (slice a1 k1 k2)/\KpL [] w1 w2/\(Hb w2 v #[pK l] 113/\Hb w2 sv #[pK s] 41->ag Zz 52 #[pK l,int u8 1,slice a1 k1 k2] w2 fun e2 w3 =>
 ∃n1,e2=returned (iv n1)/\∃l1,KpL l1 w2 w3/\(af v l1/\af sv l1)/\(Hb w3 v #[pK l] 113/\Hb w3 sv #[pK s] 41->R (returned (iv n1)) w3))):Calls Zz 58 #[pK v,pK sv] w R :=
 dD (an:={ muts:=[52],all:=true }) (args:=[.a (.c (.loc 0 0)),.a (.c (.loc 1 0))]) (rho:=[v,sv]) (hp:=[(0,113,[.v (pK l)]),(1,41,[.v (pK s)])]) aS Tryz.func58 (by kernel_rfl) rfl rfl hk hnd hlt rfl (by simp) h
theorem BS{v d:Nat}
 (hk:Hb w v #[pK d] 40)
 (h :
 Hb w v #[pK d] 40->ag Zz 80 #[pK d] w fun e1 w1 =>
 ∃n1,e1=returned (iv n1)/\KpL [] w w1/\∃(P1:LP)(P2:LM),(Hb w1 v #[pK d] 40->P1 [iv 0] w1)/\∀n2 w2,P1 [iv n2] w2->(n2<n1->∀w3,KpL [] w2 w3->Hb w3 v #[pK d] 40->Ev Zz (Instr.makeSlice 33 (iv 64) (iv 64)) w3 fun y1 w4 =>
 ∃a1 k1 k2,y1=slice a1 k1 k2/\∃l1,KpL l1 w3 w4/\af v l1/\(Hb w4 v #[pK d] 40->(ao w4 (Addr.mk v 0 none) [pK d]/\True)/\(Hb w4 v #[pK d] 40->ag Zz 32 #[pK d,iv n2,slice a1 k1 k2] w4 fun e2 w5 =>
 ∃n3,e2=returned (iv n3)/\∃l2,KpL l2 w4 w5/\af v l2/\(n3≠0->Hb w5 v #[pK d] 40->R (returned (iv n3)) w5)/\(¬n3≠0->ar i64 (n2+1)/\(Hb w5 v #[pK d] 40->P1 [iv (n2+1)] w5/\P2 [iv (n2+1)] w5<P2 [iv n2] w2)))))/\(¬n2<n1->Hb w2 v #[pK d] 40->ag Zz 37 #[pK d] w2 fun e3 w6 =>
 ∃n4,e3=returned (iv n4)/\∃l3,KpL l3 w2 w6/\af v l3/\(Hb w6 v #[pK d] 40->R (returned (iv n4)) w6))):Calls Zz 79 #[pK v] w R :=
 dD (an:={ loops:=[⟨2,[6],[1,2,3]++rg 7 10,[]⟩],muts:=[32,37],all:=true }) (args:=[.a (.c (.loc 0 0))]) (rho:=[v]) (hp:=[(0,40,[.v (pK d)])]) aS Tryz.func79 (by kernel_rfl) rfl rfl hk (by simp) (by simpa using ab hk) rfl (by simp) h
theorem Bs{v s:Nat}
 (hk:Hb w v #[pK s] 41)
 (h :
 ∃a1,ao w ((Addr.mk s 0 none).add 0) [pointer a1]/\∀w1,KpL [] w w1->Hb w1 v #[pK s] 41->ag Zz 59 #[pK s] w1 fun e1 w2 =>
 ∃a2 k1 k2,e1=returned (slice a2 k1 k2)/\KpL [] w1 w2/\(Hb w2 v #[pK s] 41->ag Zz 52 #[pointer a1,int u8 1,slice a2 k1 k2] w2 fun e2 w3 =>
 ∃n1,e2=returned (iv n1)/\∃l1,KpL l1 w2 w3/\af v l1/\(Hb w3 v #[pK s] 41->R (returned (iv n1)) w3))):Calls Zz 81 #[pK v] w R :=
 dD (an:={ muts:=[52],all:=true }) (args:=[.a (.c (.loc 0 0))]) (rho:=[v]) (hp:=[(0,41,[.v (pK s)])]) aS Tryz.func81 (by kernel_rfl) rfl rfl hk (by simp) (by simpa using ab hk) rfl (by simp) h
theorem uV{d:Nat}{dba:Option Addr}{dbn dbc:Nat}
 (h :
 ∀k1,w.heap.size<=k1->∀w1,KpL [] w w1->Hb w1 k1 #[pK d] 40->ag Zz 62 #[pK d] w1 fun e1 w2 =>
 ∃b1,e1=returned (bv b1)/\KpL [] w1 w2/\((!b1)=true->Hb w2 k1 #[pK d] 40->R (returned (tuple #[pointer none,iv 1])) w2)/\((!b1)=false->Hb w2 k1 #[pK d] 40->ag Zz 42 #[slice dba dbn dbc] w2 fun e2 w3 =>
 ∃n1,e2=returned (iv n1)/\KpL [] w2 w3/\(¬n1≠0->((↑dbn:Int)=(0:Int)->Hb w3 k1 #[pK d] 40->R (returned (tuple #[pointer none,iv 2])) w3)/\(¬(↑dbn:Int)=(0:Int)->Hb w3 k1 #[pK d] 40->∃b2,ao w3 ((Addr.mk d 0 none).add 5) [bv b2]/\(b2=true->Hb w3 k1 #[pK d] 40->R (returned (tuple #[pointer none,iv 17])) w3)/\(b2=false->Hb w3 k1 #[pK d] 40->Ev Zz (Instr.box 121 (agg #[pK d,int u64 1,iv 0])) w3 fun y1 w4 =>
 ∃d1,y1=pointer (some d1)/\∃l1,KpL l1 w3 w4/\af k1 l1/\(Hb w4 k1 #[pK d] 40->Ev Zz (Instr.makeMap 114 none) w4 fun y2 w5 =>
 ∃m1,y2=map m1/\∃l2,KpL l2 w4 w5/\af k1 l2/\(Hb w5 k1 #[pK d] 40->Ev Zz (Instr.box 116 (agg #[pointer (some d1),iv 0,slice none 0 0,map m1,slice none 0 0,iv 0])) w5 fun y3 w6 =>
 ∃d2,y3=pointer (some d2)/\∃l3,KpL l3 w5 w6/\af k1 l3/\∀k2,w6.heap.size<=k2->∃(P1:LP)(P2:LM),(∀w7,KpL [] w6 w7->Hb w7 k2 #[pointer (some d2)] 41/\Hb w7 k1 #[pK d] 40->P1 [iv 0] w7)/\∀n2 w8,P1 [iv n2] w8->(n2<(↑dbn:Int)->Ad dba n2 dbn fun d3=>(Hb w8 k2 #[pointer (some d2)] 41/\Hb w8 k1 #[pK d] 40->∃s1 a1 k3 k4 a2 k5 k6 a3 k7 k8,ao w8 (d3.add (n2.toNat*4)) [string s1,slice a1 k3 k4,slice a2 k5 k6,slice a3 k7 k8]/\(Hb w8 k2 #[pointer (some d2)] 41/\Hb w8 k1 #[pK d] 40->Ev Zz (Instr.alloc 60 true (tuple #[])) w8 fun y4 w9 =>
 ∃d4,y4=pointer (some d4)/\∃l4,KpL l4 w8 w9/\(af k2 l4/\af k1 l4)/\(Hb w9 k2 #[pointer (some d2)] 41/\Hb w9 k1 #[pK d] 40->(∃l5,ao w9 d4 l5/\l5.length=4)/\aq w9 d4 4/\(af k2 [d4.block]/\af k1 [d4.block])/\∀w10,w10=bL w9 d4 [string s1,slice a1 k3 k4,slice a2 k5 k6,slice a3 k7 k8] 0->Hb w10 k2 #[pointer (some d2)] 41/\Hb w10 k1 #[pK d] 40->∃a4 k9 k10,ao w10 ((d4.add 1).add 0) [slice a4 k9 k10]/\(Hb w10 k2 #[pointer (some d2)] 41/\Hb w10 k1 #[pK d] 40->∃a5 k11 k12,ao w10 ((d4.add 1).add 1) [slice a5 k11 k12]/\(Hb w10 k2 #[pointer (some d2)] 41/\Hb w10 k1 #[pK d] 40->ag Zz 69 #[slice a4 k9 k10,slice a5 k11 k12,slice none 0 0] w10 fun e3 w11 =>
 ∃a6 k13 k14 a7 k15 k16 a8 k17 k18 n3,e3=returned (tuple #[agg #[slice a6 k13 k14,slice a7 k15 k16,slice a8 k17 k18],iv n3])/\KpL [] w10 w11/\(Hb w11 k2 #[pointer (some d2)] 41/\Hb w11 k1 #[pK d] 40->Ev Zz (Instr.alloc 58 true (tuple #[])) w11 fun y5 w12 =>
 ∃d5,y5=pointer (some d5)/\∃l6,KpL l6 w11 w12/\(af k2 l6/\af k1 l6)/\(Hb w12 k2 #[pointer (some d2)] 41/\Hb w12 k1 #[pK d] 40->(∃l7,ao w12 d5 l7/\l7.length=3)/\aq w12 d5 3/\(af k2 [d5.block]/\af k1 [d5.block])/\∀w13,w13=bL w12 d5 [slice a6 k13 k14,slice a7 k15 k16,slice a8 k17 k18] 0->(n3≠0->Hb w13 k2 #[pointer (some d2)] 41/\Hb w13 k1 #[pK d] 40->R (returned (tuple #[pointer none,iv n3])) w13)/\(¬n3≠0->∃a9 k19 k20,ao w13 (d2.add 2) [slice a9 k19 k20]/\∃s2,ao w13 (d4.add 0) [string s2]/\∃a10 k21 k22 a11 k23 k24 a12 k25 k26,ao w13 d5 [slice a10 k21 k22,slice a11 k23 k24,slice a12 k25 k26]/\∀k27,w13.heap.size<=k27->∀w14,KpL [] w13 w14->Hb w14 k27 #[string s2,slice a10 k21 k22,slice a11 k23 k24,slice a12 k25 k26] 60/\Hb w14 k2 #[pointer (some d2)] 41/\Hb w14 k1 #[pK d] 40->Ev Zz (Builtin.append_ #[23,23] 23 #[slice a9 k19 k20,sK k27 1 1]) w14 fun y6 w15 =>
 ∃a13 k28 k29,y6=slice a13 k28 k29/\∃l8,KpL l8 w14 w15/\(af k27 l8/\af k2 l8/\af k1 l8)/\(Hb w15 k27 #[string s2,slice a10 k21 k22,slice a11 k23 k24,slice a12 k25 k26] 60/\Hb w15 k2 #[pointer (some d2)] 41/\Hb w15 k1 #[pK d] 40->(ao w15 (Addr.mk k2 0 none) [pointer (some d2)]/\True)/\(Hb w15 k27 #[string s2,slice a10 k21 k22,slice a11 k23 k24,slice a12 k25 k26] 60/\Hb w15 k2 #[pointer (some d2)] 41/\Hb w15 k1 #[pK d] 40->(∃l9,ao w15 (d2.add 2) l9/\l9.length=1)/\aq w15 (d2.add 2) 1/\(af k27 [d2.block]/\af k2 [d2.block]/\af k1 [d2.block])/\∀w16,w16=bL w15 (d2.add 2) [slice a13 k28 k29] 0->Hb w16 k27 #[string s2,slice a10 k21 k22,slice a11 k23 k24,slice a12 k25 k26] 60/\Hb w16 k2 #[pointer (some d2)] 41/\Hb w16 k1 #[pK d] 40->∃a14 k30 k31,ao w16 ((d4.add 1).add 2) [slice a14 k30 k31]/\∃(P3:LP) (P4:LM),(Hb w16 k27 #[string s2,slice a10 k21 k22,slice a11 k23 k24,slice a12 k25 k26] 60/\Hb w16 k2 #[pointer (some d2)] 41/\Hb w16 k1 #[pK d] 40->P3 [iv 0] w16)/\∀n4 w17,P3 [iv n4] w17->(n4<(↑k30:Int)->Ad a14 n4 k30 fun d6=>(Hb w17 k27 #[string s2,slice a10 k21 k22,slice a11 k23 k24,slice a12 k25 k26] 60/\Hb w17 k2 #[pointer (some d2)] 41/\Hb w17 k1 #[pK d] 40->∃a15 k32 k33 a16 k34 k35,ao w17 (d6.add (n4.toNat*2)) [slice a15 k32 k33,slice a16 k34 k35]/\∀k36,w17.heap.size<=k36->∃m2,ao w17 (d2.add 3) [map m2]/\∀w18,KpL [] w17 w18->Hb w18 k36 #[slice a15 k32 k33,slice a16 k34 k35] 147/\Hb w18 k27 #[string s2,slice a10 k21 k22,slice a11 k23 k24,slice a12 k25 k26] 60/\Hb w18 k2 #[pointer (some d2)] 41/\Hb w18 k1 #[pK d] 40->ag Zz 78 #[iv n2,slice a15 k32 k33] w18 fun e4 w19 =>
 ∃n5 n6 n7 n8 n9,e4=returned (agg #[iv n5,iv n6,iv n7,iv n8,iv n9])/\KpL [] w18 w19/\(Hb w19 k36 #[slice a15 k32 k33,slice a16 k34 k35] 147/\Hb w19 k27 #[string s2,slice a10 k21 k22,slice a11 k23 k24,slice a12 k25 k26] 60/\Hb w19 k2 #[pointer (some d2)] 41/\Hb w19 k1 #[pK d] 40->ag Zz 77 #[slice a16 k34 k35] w19 fun e5 w20 =>
 ∃a17 k37 k38,e5=returned (slice a17 k37 k38)/\KpL [] w19 w20/\(Hb w20 k36 #[slice a15 k32 k33,slice a16 k34 k35] 147/\Hb w20 k27 #[string s2,slice a10 k21 k22,slice a11 k23 k24,slice a12 k25 k26] 60/\Hb w20 k2 #[pointer (some d2)] 41/\Hb w20 k1 #[pK d] 40->Ev Zz (do
 Instr.mapUpdate 114 (map m2) (agg #[iv n5,iv n6,iv n7,iv n8,iv n9]) (agg #[iv 0,slice a17 k37 k38])
 pure undef) w20 fun y7 w21 =>
 y7=tuple #[]/\∃l10,KpL l10 w20 w21/\(af k36 l10/\af k27 l10/\af k2 l10/\af k1 l10)/\ar i64 (n4+1)/\(Hb w21 k36 #[slice a15 k32 k33,slice a16 k34 k35] 147/\Hb w21 k27 #[string s2,slice a10 k21 k22,slice a11 k23 k24,slice a12 k25 k26] 60/\Hb w21 k2 #[pointer (some d2)] 41/\Hb w21 k1 #[pK d] 40->P3 [iv (n4+1)] w21/\P4 [iv (n4+1)] w21<P4 [iv n4] w17)))))/\(¬n4<(↑k30:Int)->ar i64 (n2+1)/\(Hb w17 k27 #[string s2,slice a10 k21 k22,slice a11 k23 k24,slice a12 k25 k26] 60/\Hb w17 k2 #[pointer (some d2)] 41/\Hb w17 k1 #[pK d] 40->P1 [iv (n2+1)] w17/\P2 [iv (n2+1)] w17<P2 [iv n2] w8)))))))))))))/\(¬n2<(↑dbn:Int)->∀w22,KpL [] w8 w22->Hb w22 k2 #[pointer (some d2)] 41/\Hb w22 k1 #[pK d] 40->ag Zz 61 #[pointer (some d2)] w22 fun e6 w23 =>
 ∃n10,e6=returned (iv n10)/\KpL [] w22 w23/\(Hb w23 k2 #[pointer (some d2)] 41/\Hb w23 k1 #[pK d] 40->(∃l11,ao w23 (d2.add 5) l11/\l11.length=1)/\aq w23 (d2.add 5) 1/\(af k2 [d2.block]/\af k1 [d2.block])/\∀w24,w24=bL w23 (d2.add 5) [iv n10] 0->∃n11,ao w24 (d2.add 5) [iv n11]/\∀w25,KpL [] w24 w25->Hb w25 k2 #[pointer (some d2)] 41/\Hb w25 k1 #[pK d] 40->ag Zz 50 #[pK d] w25 fun e7 w26 =>
 ∃n12,e7=returned (iv n12)/\KpL [] w25 w26/\(n12<n11->Hb w26 k2 #[pointer (some d2)] 41/\Hb w26 k1 #[pK d] 40->R (returned (tuple #[pointer none,iv 18])) w26)/\(¬n12<n11->Hb w26 k2 #[pointer (some d2)] 41/\Hb w26 k1 #[pK d] 40->∃a18,ao w26 (d2.add 0) [pointer a18]/\∀k39,w26.heap.size<=k39->∀w27,KpL [] w26 w27->Hb w27 k39 #[func (Fn.func 79) #[] #[pK k1],func (Fn.func 81) #[] #[pK k2],func (Fn.func 60) #[pointer a18] #[]] 49/\Hb w27 k2 #[pointer (some d2)] 41/\Hb w27 k1 #[pK d] 40->ag Zz 55 #[sK k39 3 3] w27 fun e8 w28 =>
 ∃n13,e8=returned (iv n13)/\∃l12,KpL l12 w27 w28/\(af k2 l12/\af k1 l12)/\(n13≠0->Hb w28 k2 #[pointer (some d2)] 41/\Hb w28 k1 #[pK d] 40->R (returned (tuple #[pointer none,iv n13])) w28)/\(¬n13≠0->Hb w28 k2 #[pointer (some d2)] 41/\Hb w28 k1 #[pK d] 40->ag Zz 67 #[pointer (some d2)] w28 fun e9 w29 =>
 ∃a19,e9=returned (pointer a19)/\∃l13,KpL l13 w28 w29/\(af k2 l13/\af k1 l13)/\(Hb w29 k2 #[pointer (some d2)] 41/\Hb w29 k1 #[pK d] 40->R (returned (tuple #[pointer a19,iv 0])) w29))))))))))/\(n1≠0->Hb w3 k1 #[pK d] 40->R (returned (tuple #[pointer none,iv 2])) w3))):Calls Zz 20 #[pK d,slice dba dbn dbc] w R :=
 fz { loops:=[⟨16,[75],[12]++rg 76 16,[]⟩,⟨9,[40],[4,5,7,8,9,10,12]++rg 41 52,[]⟩],muts:=[55,67],all:=true,lim:=2 } [av (pK d),av (.slice dba dbn dbc)] Tryz.func20 h
end
end Go.Vc
namespace Go.Vc
open Go Go.Proofs
theorem dy.stoOk{st:bg}(h:dy st){ps:List (Pl×dE)}(hp:ps.Perm st.places):Dq st.arrays st.batches ps:=by
 have h1:=h.an
 have h2:=h.bn
 have h3:=h.pn
 have h4:=hp.length_eq
 refine⟨by omega,fun x hx=>?_,by omega,fun x hx=>?_,by omega,fun p hpm=>?_⟩
 ·have a:=cS (h.sch x hx)
  have b:=dN a.1
  have c:=bN (h.nms x hx)
  refine⟨by omega,by omega,by omega,fun d hd=>?_,fun a' ha=>?_⟩
  ·have:=bN (jt a.1 d hd).1;omega
  ·have:=bN (lC (h.sch x hx) a' ha).1;omega
 ·have:=bN (h.bat x hx).1;omega
 ·have hpo:=h.pls p (hp.mem_iff.1 hpm)
  obtain⟨g1,g2,g3,g4,g5,g6,g7,g8⟩:=hpo.dims h.sch
  have:=hpo.a0
  have:=mb g8 g7
  exact⟨by omega,by omega,by omega⟩
structure Fr where
 e:Int
 st:bg
 k:Dk
 num:Int
 nxt:Nat
def bg.cmp(st:bg)(k:Dk)(num:Int)(nxt:Nat)(ps:List (Pl×dE)):Fr :=
 if cw st k≠0 then ⟨cw st k,st,k,num,nxt⟩
 else if (k.clear (num+1) 0).1≠0 then ⟨(k.clear (num+1) 0).1,{ st with id:=-1 },(k.clear (num+1) 0).2,num,nxt⟩
 else if ((k.clear (num+1) 0).2.add (num+1) 0 1 (ap st.arrays st.batches ps)).1≠0 then ⟨((k.clear (num+1) 0).2.add (num+1) 0 1 (ap st.arrays st.batches ps)).1,{ st with id:=-1 },((k.clear (num+1) 0).2.add (num+1) 0 1 (ap st.arrays st.batches ps)).2,num,nxt⟩
 else if (((k.clear (num+1) 0).2.add (num+1) 0 1 (ap st.arrays st.batches ps)).2.note (num+1)).1≠0 then ⟨(((k.clear (num+1) 0).2.add (num+1) 0 1 (ap st.arrays st.batches ps)).2.note (num+1)).1,{ st with id:=-1 },(((k.clear (num+1) 0).2.add (num+1) 0 1 (ap st.arrays st.batches ps)).2.note (num+1)).2,num,nxt⟩
 else ⟨0,{ st with use:=1+8*st.arrays.length+3*st.places.length+st.batches.length },(((k.clear (num+1) 0).2.add (num+1) 0 1 (ap st.arrays st.batches ps)).2.note (num+1)).2,num+1,0+1+aG (ap st.arrays st.batches ps)⟩
def C5(s k1 kv l3:Nat)(wB:World)(Q:Ending->World->Prop)(e2:Ending)(w6:World):Prop :=
 ∃n3:Int,e2=.returned (iv n3)/\∃l2,KpL l2 wB w6/\(af kv l2/\af k1 l2)/\
  (n3≠0->(w6.heap[kv]?=some (.cells #[pK l3] 113 (0,0))/\w6.heap[k1]?=some (.cells #[pK s] 41 (0,0)))->
    ag Zz 51 #[pK s,iv n3] w6 fun e3 w7=>∃n4:Int,e3=.returned (iv n4)/\∃l3',KpL l3' w6 w7/\(af kv l3'/\af k1 l3')/\
     ((w7.heap[kv]?=some (.cells #[pK l3] 113 (0,0))/\w7.heap[k1]?=some (.cells #[pK s] 41 (0,0)))->Q (.returned (iv n4)) w7))/\
  (¬n3≠0->∀w8,KpL [] w6 w8->(w8.heap[kv]?=some (.cells #[pK l3] 113 (0,0))/\w8.heap[k1]?=some (.cells #[pK s] 41 (0,0)))->
    ag Zz 61 #[pK s] w8 fun e4 w9=>∃n5:Int,e4=.returned (iv n5)/\KpL [] w8 w9/\
     ((w9.heap[kv]?=some (.cells #[pK l3] 113 (0,0))/\w9.heap[k1]?=some (.cells #[pK s] 41 (0,0)))->
       (∃l4,ao w9 ((⟨s,0,none⟩:Addr).add 0) l4/\l4.length=1)/\aq w9 ((⟨s,0,none⟩:Addr).add 0) 1/\(af kv [s]/\af k1 [s])/\
       ∀w10,w10=bL w9 ((⟨s,0,none⟩:Addr).add 0) [pK l3] 0->
        (w10.heap[kv]?=some (.cells #[pK l3] 113 (0,0))/\w10.heap[k1]?=some (.cells #[pK s] 41 (0,0)))->
        (ao w10 ⟨k1,0,none⟩ [pK s]/\True)/\
        ((w10.heap[kv]?=some (.cells #[pK l3] 113 (0,0))/\w10.heap[k1]?=some (.cells #[pK s] 41 (0,0)))->
          (∃l5,ao w10 ((⟨s,0,none⟩:Addr).add 5) l5/\l5.length=1)/\aq w10 ((⟨s,0,none⟩:Addr).add 5) 1/\(af kv [s]/\af k1 [s])/\
          ∀w11,w11=bL w10 ((⟨s,0,none⟩:Addr).add 5) [iv n5] 0->
           (w11.heap[kv]?=some (.cells #[pK l3] 113 (0,0))/\w11.heap[k1]?=some (.cells #[pK s] 41 (0,0)))->Q (.returned (iv 0)) w11)))
theorem bU.newLog{M F Fd Fd':List Nat}{w w':World}{s l d l3:Nat}{num:Int}{nxt:Nat}{st:bg}{k k':Dk}(h:bU M w s l d num nxt st k F Fd)(hl3:w.heap.size<=l3)(hD:bz (l3::(F++M)) w' d k' Fd')(hO:ci (l3::Fd) w (l3::Fd') w')(hl3l:l3<w'.heap.size):bU (l3::M) w' s l d num nxt st k' F Fd':=by
 have hkp:KpL Fd w w':=(KpL.refl Fd w).more (hO.kp) fun b hb=>(List.mem_cons.1 hb).elim (fun h=>.inr (by omega)) .inl
 refine⟨h.sto.step hkp (fun b hb=>by simp[hb]) fun b hb=>?_,hD.weak fun b hb=>by simp at hb ⊢;rcases hb with hb|rfl|hb<;>simp[*]⟩
 rcases List.mem_append.1 hb with hb|hb
 ·refine⟨?_,(hD.own_lt b hb).1⟩
  rcases hO.new b (by simp[hb]) with hb'|hb'
  ·rcases List.mem_cons.1 hb' with rfl|hb'
   ·exact .inr hl3
   ·exact .inl (by simp[hb'])
  ·exact .inr hb'
 ·rcases List.mem_cons.1 hb with rfl|hb
  ·exact⟨.inr hl3,hl3l⟩
  ·exact⟨.inl (by simp[hb]),hD.mlt b (by simp[hb])⟩
theorem bU.weak{M M' F Fd:List Nat}{w:World}{s l d:Nat}{num:Int}{nxt:Nat}{st:bg}{k:Dk}(h:bU M w s l d num nxt st k F Fd)(hs:∀b∈M',b∈M):bU M' w s l d num nxt st k F Fd :=
 h.step (KpL.refl [] w) (by simp) fun b hb=>⟨.inl (hs b hb),h.mlt b (hs b hb)⟩
theorem Dk.add_n(k:Dk)(num:Int)(nxt:Nat)(q:Int)(b:List Int):(k.add num nxt q b).2.n=k.n:=by
 unfold Dk.add
 split
 ·exact Dk.add1L_n _ _ _ _ _
 ·split
  ·exact(Dk.write_n _ _ _).trans (Dk.add1L_n _ _ _ _ _)
  ·exact(Dk.sync_n _).trans ((Dk.write_n _ _ _).trans (Dk.add1L_n _ _ _ _ _))
set_option maxHeartbeats 4000000 in
theorem wE{M F Fd:List Nat}{w:World}{s l d l3 k1 kv kf:Nat}{num:Int}{nxt:Nat}{st:bg}{k:Dk}(h:bU M w s l d num nxt st k F Fd)(hv:dy st)(hrd:¬cw st k≠0)(h2:2<=k.n)(hnum:0<=num)
 (hpl:k.pend.length<=900000)(hA:∀ps',ps'.Perm st.places->(k.clear (num+1) 0).1=0->gz (k.clear (num+1) 0).2 (num+1) 0 1 (ap st.arrays st.batches ps'))
 (hT:∀ps',ps'.Perm st.places->(k.clear (num+1) 0).1=0->((k.clear (num+1) 0).2.add (num+1) 0 1 (ap st.arrays st.batches ps')).1=0->((k.clear (num+1) 0).2.add (num+1) 0 1 (ap st.arrays st.batches ps')).2.pend.length<=1000000)
 {wB:World}(hk:KpL [] w wB)(hl3:aM wB l3 d (num+1) (0:Nat))(hl3n:w.heap.size<=l3)(hf:wB.heap[kf]?=some (.cells #[.func (.func 56) #[] #[pK kv],.func (.func 58) #[] #[pK kv,pK k1],.func (.func 60) #[pK l3] #[]] 49 (0,0)))
 (hkv:wB.heap[kv]?=some (.cells #[pK l3] 113 (0,0)))(hk1:wB.heap[k1]?=some (.cells #[pK s] 41 (0,0)))(hkvn:w.heap.size<=kv)(hkfn:w.heap.size<=kf)(hk1n:w.heap.size<=k1){Q:Ending->World->Prop}
 (hQ:∀w' ps',ps'.Perm st.places->∀l' F' Fd',bU M w' s l' d (st.cmp k num nxt ps').num (st.cmp k num nxt ps').nxt (st.cmp k num nxt ps').st (st.cmp k num nxt ps').k F' Fd'->ci (F++Fd) w (F'++Fd') w'->Q (.returned (iv (st.cmp k num nxt ps').e)) w'):
 Calls Zz 55 #[sK kf 3 3] wB (C5 s k1 kv l3 wB Q):=by
 have hne:kv≠l3/\k1≠l3/\kf≠l3/\kv≠k1:=by
  have e:=hl3
  unfold aM at e
  refine⟨?_,?_,?_,?_⟩<;>rintro rfl
  ·rw[hkv]at e;simp at e
  ·rw[hk1]at e;simp at e
  ·rw[hf]at e;simp at e
  ·rw[hkv]at hk1;simp at hk1
 obtain⟨hvl,h1l,hfl,hv1⟩:=hne
 have hB:=h.kp0 hk
 have sB:=hk.size
 have hFl:=h.own_lt
 have hl3l:=ab hl3
 have hn:∀x,w.heap.size<=x->x∉F++Fd:=fun x hx hm=>by have:=(hFl x hm).1;omega
 have hX:∀x∈[kf,kv,k1,l3],w.heap.size<=x/\x<wB.heap.size:=by
  intro x hx
  have:=ab hf
  have:=ab hkv
  have:=ab hk1
  simp only[List.mem_cons,List.not_mem_nil,or_false]at hx
  rcases hx with rfl|rfl|rfl|rfl<;>omega
 have hD0:bz ([kf,kv,k1,l3]++(F++M)) wB d k Fd:=h.dk.step hk (by simp) fun b hb=>by
  rcases List.mem_append.1 hb with hb|hb
  ·exact⟨.inr (hX b hb).1,(hX b hb).2⟩
  ·exact⟨.inl hb,by have:=h.dk.mlt b hb;omega⟩
 generalize hXX:[kf,kv,k1,l3]++(F++M)=X at *
 have hmX:∀x∈[kf,kv,k1,l3],x∈X:=fun x hx=>by rw[<-hXX];exact List.mem_append_left _ hx
 have mf:kf∈X:=hmX _ (by simp)
 have mv:kv∈X:=hmX _ (by simp)
 have m1:k1∈X:=hmX _ (by simp)
 have ml:l3∈X:=hmX _ (by simp)
 have sysOf:∀{w':World} {k':Dk} {Fd':List Nat},bz X w' d k' Fd'->ci (l3::Fd) wB (l3::Fd') w'->bU (l3::M) w' s l d num nxt st k' F Fd':=by
  intro w' k' Fd' hD hO
  refine h.newLog hl3n (hD.weak fun b hb=>by rw[<-hXX];simp at hb ⊢;rcases hb with rfl|hb|hb<;>simp[*]) ⟨(KpL.refl _ _ |>.trans (hk.mono (by simp))).trans hO.kp,fun b hb=>(hO.new b hb).imp id fun h=>by omega⟩ (by have:=hO.kp.size;omega)
 refine(qR (b:=kf) (fs:=[(56,#[],#[pK kv]),(58,#[],#[pK kv,pK k1]),(60,#[pK l3],#[])]) (T:=49) hf (by simp) (c:=3)
  (R:=fun e w'=>∃(n:Int) (ps':List (Pl×dE)),e=.returned (iv n)/\ps'.Perm st.places/\∃Fd' k' nxt',bz X w' d k' Fd'/\ci (l3::Fd) wB (l3::Fd') w'/\aM w' l3 d (num+1) (nxt':Nat)/\(n≠0->st.cmp k num nxt ps'=⟨n,{ st with id:=-1 },k',num,nxt⟩)/\
    (n=0->st.cmp k num nxt ps'=⟨0,{ st with use:=1+8*st.arrays.length+3*st.places.length+st.batches.length },k',num+1,nxt'⟩)) ?_).mono ?_
 ·have own3:∀{wa wb:World} {Fa Fb:List Nat},ci Fa wa Fb wb->ci (l3::Fa) wa (l3::Fb) wb:=fun ho=>⟨ho.kp.mono (by intro x hx;simp[hx]),fun x hx=>(List.mem_cons.1 hx).elim (fun h=>.inl (by simp[h])) fun hx=>(ho.new x hx).imp (fun h=>by simp[h]) id⟩
  refine⟨⟨_,_,Tryz.func56,rfl⟩,⟨xN hkv fun _=>⟨(pF hD0 hl3 ml h2 (by omega) (i0:=0) (by omega) (by omega)).mono ?_⟩⟩⟩
  rintro e w1 ⟨rfl,Fd1,hD1,hO1⟩
  have hl31:aM w1 l3 d (num+1) (0:Nat):=hl3.keep hO1.kp (hD0.out ml).no
  refine⟨_,rfl,_,hO1.kp,hD0.out mv,fun hkv1=>⟨_,_,rfl,hO1.kp,hD0.out mf,fun hne=>?_,fun hz=>?_⟩⟩
  ·exact⟨_,st.places,rfl,List.Perm.refl _,Fd1,_,0,hD1,own3 hO1,hl31,fun _=>by unfold bg.cmp;rw[if_neg hrd,if_pos hne],fun hc=>absurd hc hne⟩
  have hk11:w1.heap[k1]?=_:=(hO1.kp.blk k1 (ab hk1) (hD0.out m1).no).trans hk1
  have hS1:=sysOf hD1 (own3 hO1)
  refine⟨⟨_,_,Tryz.func58,rfl⟩,⟨BQ ⟨hkv1,hk11⟩ (by simp[hv1]) (by simp;exact⟨ab hkv1,ab hk11⟩) fun w2 hw2 hkn2=>⟨(tl (N:=l3::Fd1) (fun x hx=>?_) ((hS1.kp0 hw2).sto.weak (by simp)) (hv.stoOk (List.Perm.refl _))).mono ?_⟩⟩⟩
  ·have:=hw2.size
   rcases List.mem_cons.1 hx with rfl|hx
   ·have:=ab hl31;omega
   ·have:=(hD1.own_lt x hx).1;omega
  rintro e w3 ⟨ps',hperm,hsorted,a,n,c,rfl,hV⟩
  have hk13:KpL [] w1 w3:=hw2.trans hV.kpn
  have ho:=hA ps' hperm hz
  have hlen:=hV.acc.len
  have hlb:(ap st.arrays st.batches ps').length<=1000000:=by
   have h1:=ho.fit
   have h2:=(k.clear (num+1) 0).2.half_le
   obtain⟨ss,hs1,hs2,hs3⟩:=hD1.ok.secs
   unfold aG at h1
   omega
  have hRb:=hV.acc.done (by have:az=140737488355328:=rfl;omega)
  refine⟨_,_,_,rfl,hV.kpn,fun hkn3=>⟨(rf (hD1.kp0 hk13) (hl31.keep hk13 (by simp)) ml hRb (bC.2 (by omega)) ho.n2 (by omega) ho.fit ho.pl ho.ps ho.ps2).mono ?_⟩⟩
  rintro e w4 ⟨rfl,Fd2,hD2,hO2,hl32⟩
  have hO02:ci (l3::Fd) wB (l3::Fd2) w4:=((own3 hO1).kp0 hk13).trans hO2
  have nin:∀x∈X,x≠l3->af x (l3::Fd1):=fun x hx hne=>⟨fun hm=>(List.mem_cons.1 hm).elim hne (hD1.out hx).no⟩
  refine⟨_,rfl,_,hO2.kp,⟨nin kv mv hvl,nin k1 m1 h1l⟩,fun hkn4=>⟨_,_,rfl,(hk13.mono (by simp)).trans hO2.kp,nin kf mf hfl,fun hne=>?_,fun hz2=>?_⟩⟩
  ·rw[if_neg hne]at hl32
   exact⟨_,ps',rfl,hperm,Fd2,_,0,hD2,hO02,hl32,fun _=>by unfold bg.cmp;rw[if_neg hrd,if_neg (by simp[hz]),if_pos hne],fun hc=>absurd hc hne⟩
  rw[if_pos hz2]at hl32
  refine⟨⟨_,_,Tryz.func60,rfl⟩,⟨(rX hD2 hl32 ml (by have:=hD2.ok.secs;have:=ho.n2;rw[Dk.add_n];omega) (by omega) (hT ps' hperm hz hz2)).mono ?_⟩⟩
  rintro e w5 ⟨rfl,Fd3,hD3,hO3⟩
  have hl33:=hl32.keep hO3.kp (hD2.out ml).no
  refine⟨_,_,rfl,hO3.kp,hD2.out mf,fun hne=>?_,fun hz3=>?_⟩
  ·exact⟨_,ps',rfl,hperm,Fd3,_,_,hD3,hO02.trans (own3 hO3),hl33,fun _=>by unfold bg.cmp;rw[if_neg hrd,if_neg (by simp[hz]),if_neg (by simp[hz2]),if_pos hne],fun hc=>absurd hc hne⟩
  ·exact⟨0,ps',rfl,hperm,Fd3,_,_,hD3,hO02.trans (own3 hO3),hl33,fun hc=>absurd rfl hc,fun _=>by unfold bg.cmp;rw[if_neg hrd,if_neg (by simp[hz]),if_neg (by simp[hz2]),if_neg (by simp[hz3])]⟩
 ·rintro e w6 ⟨n,ps',rfl,hperm,Fd',k',nxt',hD6,hO6,hl36,hne6,hz6⟩
  have hS6:=sysOf hD6 hO6
  have nin:∀x∈X,x≠l3->af x (l3::Fd):=fun x hx hne=>⟨fun hm=>(List.mem_cons.1 hm).elim hne (hD0.out hx).no⟩
  have ninF:∀x∈[kf,kv,k1,l3],x∉F:=fun x hx hm=>by have:=(hFl x (List.mem_append_left _ hm)).1;have:=(hX x hx).1;omega
  have hOw:ci (F++Fd) w (F++Fd') w6:=by
   refine⟨(KpL.refl _ _ |>.trans (hk.mono (by simp))).more (hO6.kp) fun b hb=>?_,fun b hb=>?_⟩
   ·rcases List.mem_cons.1 hb with rfl|hb
    ·exact .inr hl3n
    ·exact .inl (by simp[hb])
   ·rcases List.mem_append.1 hb with hb|hb
    ·exact .inl (by simp[hb])
    ·rcases hO6.new b (by simp[hb]) with hb'|hb'
     ·rcases List.mem_cons.1 hb' with rfl|hb'
      ·exact .inr hl3n
      ·exact .inl (by simp[hb'])
     ·exact .inr (by omega)
  refine⟨n,rfl,_,hO6.kp,⟨nin kv mv hvl,nin k1 m1 h1l⟩,fun hne hkn6=>⟨(wi hS6.sto n).mono ?_⟩,fun hz w8 hw8 hkn8=>?_⟩
  ·rintro e w7 ⟨rfl,hS7,hO7⟩
   rw[if_pos hne]at hS7
   obtain⟨h7,hO7'⟩:=hS6.stoTo hS7 hO7
   refine⟨_,rfl,_,hO7.kp,⟨⟨ninF kv (by simp)⟩,⟨ninF k1 (by simp)⟩⟩,fun _=>?_⟩
   have:=hQ w7 ps' hperm l F Fd'
   rw[hne6 hne]at this
   exact this (h7.weak (by simp;intro a ha;simp[ha])) (hOw.trans hO7')
  have hz':=Classical.not_not.1 hz
  have h8:=hS6.kp0 hw8
  refine⟨(gZ h8.sto (by have:=hv.an;omega) (by have:=hv.pn;omega) (by have:=hv.bn;omega)).mono ?_⟩
  rintro e w9 ⟨rfl,hw9⟩
  have h9:=h8.kp0 hw9
  obtain⟨m,ra,rn,rc,qa,qn,qc,hI,hl9,rfl⟩:=h9.sto
  have hsF:s∈s::l::m::aj qa:=by simp
  have nins:af kv [s]/\af k1 [s]:=⟨⟨fun hm=>ninF kv (by simp) (by simp at hm;simp[hm])⟩,⟨fun hm=>ninF k1 (by simp) (by simp at hm;simp[hm])⟩⟩
  have hk10:KpL [s] w9 (bL w9 ((⟨s,0,none⟩:Addr).add 0) [pK l3] 0):=by rw[al];exact cK w9 ⟨s,0+0,none⟩ _
  have hs10:SC (bL w9 ((⟨s,0,none⟩:Addr).add 0) [pK l3] 0) s l3 st.id ra rn rc (some m) qa qn qc st.use:=by rw[al];exact cL (off:=0) (l:=[_]) hI.hs (by simp)
  refine⟨_,rfl,hw9,fun hkn9=>⟨⟨_,by rw[al];exact ak hI.hs 0 [_] rfl,rfl⟩,by rw[al];exact bE hI.hs,nins,?_⟩⟩
  rintro w10 rfl hkn10
  refine⟨⟨ak hkn10.2 0 [_] rfl,trivial⟩,fun _=>⟨⟨_,hs10.ld5,rfl⟩,hs10.nf 5,nins,?_⟩⟩
  rintro w11 rfl _
  have hk11:=hs10.kpS 5 (iv (1+8*(st.arrays.length:Int)+3*st.places.length+st.batches.length))
  have hs11:=hs10.set5 (1+8*(st.arrays.length:Int)+3*st.places.length+st.batches.length)
  have hk911:=hk10.trans hk11
  generalize hw11:bL (bL w9 ((⟨s,0,none⟩:Addr).add 0) [pK l3] 0) ((⟨s,0,none⟩:Addr).add 5) [iv (1+8*(st.arrays.length:Int)+3*st.places.length+st.batches.length)] 0=w11 at *
  have hk611:KpL [s] w6 w11:=((hw8.trans hw9).mono (by simp)).trans hk911
  have hl3n':l3∉s::l::m::aj qa:=ninF l3 (by simp)
  have hl11:aM w11 l3 d (num+1) (nxt':Nat):=hl36.keep hk611 (by simp;rintro rfl;exact hl3n' (by simp))
  have s11:=hk611.size
  have hl3D:l3∉Fd'++M:=fun hm=>by
   rcases List.mem_append.1 hm with hm|hm
   ·exact(hD6.out ml).no hm
   ·have:=h.mlt l3 hm;omega
  have hq:=hQ w11 ps' hperm l3 (s::l3::m::aj qa) Fd'
  rw[hz6 hz']at hq
  have hl36l:=ab hl36
  have hll9:=ab hl9
  have hm:=hI.pls.mM
  refine hq ⟨⟨m,ra,rn,rc,qa,qn,qc,⟨hs11,?_,?_,?_,fun e=>hl3n' (by simp[e]),fun hm=>hI.sM (by simp at hm ⊢;rcases hm with hm|hm<;>simp[hm]),hl3D,hI.idI,ae.2 ?_,hI.keys⟩,hl11,rfl⟩,?_⟩ ?_
  ·exact(hI.arr.kp hk911 (by simp)).weak fun b hb=>by simp at hb ⊢;rcases hb with hb|hb|hb|hb|hb|hb<;>simp[hb]
  ·exact hI.pls.step hk911 (by simp) fun b hb=>.inl (by simp at hb ⊢;rcases hb with hb|hb|hb|hb|hb<;>simp[hb])
  ·exact(hI.bat.kp hk911 (by simp)).weak fun b hb=>by simp at hb ⊢;rcases hb with hb|hb|hb|hb|hb<;>simp[hb]
  ·have:=hv.an;have:=hv.pn;have:=hv.bn;simp only;omega
  ·refine hD6.step hk611 (by rw[<-hXX];simp) fun b hb=>?_
   have hbX:b∈X:=by rw[<-hXX];simp at hb ⊢;rcases hb with hb|hb|hb|hb|hb<;>simp[hb]
   exact⟨.inl hbX,by have:=hD6.mlt b hbX;omega⟩
  ·refine⟨hOw.kp.trans (hk611.mono (by simp)),fun b hb=>?_⟩
   rcases List.mem_append.1 hb with hb|hb
   ·simp only[List.mem_cons]at hb
    rcases hb with rfl|rfl|rfl|hb
    ·exact .inl (by simp)
    ·exact .inr hl3n
    ·exact .inl (by simp)
    ·exact .inl (by simp[hb])
   ·exact hOw.new b (by simp[hb])
end Go.Vc
namespace Go.Vc
open Go Go.Proofs
end Go.Vc
