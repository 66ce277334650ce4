/- A part of the proof of the theorem that this claim hands in: merged and shortened by small programs out of texts of my own. -/
import Derived.Test.YtlmpniofhabmiaaGreatPlbA
set_option linter.unusedVariables false
set_option linter.unusedSimpArgs false
set_option linter.unusedSectionVars false
namespace Go.Vc
open Go Go.Proofs
variable {α:Type}
theorem tc{M:List Nat}{w:World}{xs ys:List (Int)}{a b:Option Addr}{n c m q:Nat}(hx:R (au (tI .u8)) M w xs [.slice a n c])(hy:R (au (tI .u8)) M w ys [.slice b m q]):
 Calls Zz 124 #[.slice a n c,.slice b m q] w (aA (.bool (decide (xs=ys))) w):=by
 obtain⟨rfl,hn1,hn2⟩:=hx.sl_len
 obtain⟨rfl,hm1,hm2⟩:=hy.sl_len
 have hmx:az=140737488355328:=rfl
 refine tf ⟨fun hne=>?_,fun he=>⟨fun vs w'=>∃i,vs=[iv i]/\KpL [] w w'/\0<=i/\i<=xs.length/\xs.take i.toNat=ys.take i.toNat,fun vs _=>match vs with|[.int _ i]=>xs.length - i.toNat|_=>0,⟨0,rfl,KpL.refl _ _,by omega,by omega,rfl⟩,?_⟩⟩
 ·refine⟨?_,KpL.refl _ _⟩
  have:xs≠ys:=by rintro rfl;exact hne rfl
  rw[decide_eq_false this]
 have hl:xs.length=ys.length:=by
  have:=Classical.not_not.1 he
  omega
 rintro n1 w1 ⟨i,hv,hk,hi0,hi1,ht⟩
 obtain rfl:=v1 hv
 constructor
 ·intro hlt
  have h1:n1.toNat<xs.length:=by omega
  have h2:n1.toNat<ys.length:=by omega
  obtain⟨ad,cs,rfl,hv1,hld1,_,_⟩:=(hx.kp0 hk).sl_get h1
  obtain⟨ad2,cs2,rfl,hv2,hld2,_,_⟩:=(hy.kp0 hk).sl_get h2
  obtain⟨rfl,hok1⟩:=hv1.intD
  obtain⟨rfl,hok2⟩:=hv2.intD
  refine⟨ad,rfl,hi0,hlt,_,hld1,ad2,rfl,hi0,by omega,_,hld2,?_⟩
  have hkey:(decide (xs[n1.toNat]=ys[n1.toNat]))=decide (xs[n1.toNat]=ys[n1.toNat]):=by
   rfl
  refine⟨?_,?_⟩
  ·intro hb w2 hw2
   refine⟨?_,hk.trans hw2⟩
   have hne:xs[n1.toNat]≠ys[n1.toNat]:=by
    intro hc
    first
     |exact hb hc
     |(rw[decide_eq_true hc]at hkey;simp[hkey]at hb)
   rw[decide_eq_false (dU h1 h2 hne)]
  ·intro hb
   have heq:xs[n1.toNat]=ys[n1.toNat]:=by
    have:decide (xs[n1.toNat]=ys[n1.toNat])=true:=by rw[<-hkey];simpa using hb
    exact of_decide_eq_true this
   have e1:(n1+1).toNat=n1.toNat+1:=by omega
   refine⟨ae.2 (by omega),fun w3 hw3=>⟨⟨n1+1,rfl,hk.trans hw3,by omega,by omega,by rw[e1];exact eJ h1 h2 ht heq⟩,?_⟩⟩
   show xs.length - (n1+1).toNat<xs.length - n1.toNat
   omega
 ·intro hge
  refine⟨?_,hk⟩
  have e1:n1.toNat=xs.length:=by omega
  rw[e1,List.take_length,hl,List.take_length]at ht
  rw[decide_eq_true ht]
end Go.Vc
namespace Go.Vc
open Go Go.Lib
variable {P:Program}
theorem bo(s:ByteArray):(cB s).length=s.size:=by unfold cB;rw[List.length_map,Array.length_toList];rfl
theorem om(s:ByteArray)(i:Nat)(hi:i<s.size):(cB s)[i]'(by rw[bo];exact hi)=((s.data.toList.getD i 0).toNat:Int):=by
 unfold cB
 have:i<s.data.toList.length:=by rw[Array.length_toList];exact hi
 rw[List.getElem_map,List.getD_eq_getElem?_getD,List.getElem?_eq_getElem this,Option.getD_some]
theorem Ck(s:ByteArray):∀x∈cB s,ar .u8 x:=by
 intro x hx
 unfold cB at hx
 simp only[List.mem_map]at hx
 obtain⟨b,_,rfl⟩:=hx
 have:=b.toNat_lt
 exact bC.2 (by omega)
theorem zJ{src dst e:TypeId}{u:TypeDesc}(hs:P.underlying src=some u)(hd:P.underlying dst=some (.slice e))(he:P.underlying e=some (.int .u8)){w:World}{s:ByteArray}(hsz:s.size<=az){Q:Value->World->Prop}
 (h:∀a c w',KpL [] w w'->(∀M:List Nat,(∀b∈M,b<w.heap.size)->R (au (tI .u8)) M w' (cB s) [.slice a s.size c])->Q (.slice a s.size c) w'):Ev P (convert src dst (.string s)) w Q:=by
 have hcap:s.size<=grownCap w s.size 0 e:=by unfold grownCap;simp only[Question.cut];omega
 refine⟨_,_,run_convert_string_bytes w src dst e s hs hd he,h _ _ _ ⟨rfl,rfl,rfl,by first|exact Nat.le_refl _|exact Nat.le_succ _,by rw[bytesWorld_size];omega,fun b hb _=>bytesWorld_at_old w e s b hb⟩ fun M hM=>?_⟩
 refine⟨_,_,by rw[bo],by rw[bo];exact hcap,by rw[bo];exact hsz,fun _=>⟨w.heap.size,0,_,e,_,rfl,⟨by rw[bytesWorld_size];omega,fun hm=>by have:=hM _ hm;omega⟩,bytesWorld_at_new w e s,fun i x hx=>?_⟩⟩
 obtain⟨hi,rfl⟩:=List.getElem?_eq_some_iff.1 hx
 have hi':i<s.size:=by rw[bo]at hi;exact hi
 refine⟨[.int .u8 ((cB s)[i])],⟨rfl,Ck s _ (List.getElem_mem hi)⟩,fun j v hv=>?_⟩
 cases j with
 |succ j=>simp at hv
 |zero =>
  simp at hv
  subst hv
  have hc:=bytesWorld_cell w e s i hi'
  rw[bZ (bytesWorld_at_new w e s)]at hc
  rw[om s i hi']
  show(bytesCells w e s).toList[0+i*1+0]?=_
  rw[show 0+i*1+0=i from by omega]
  simpa using hc
def wH(l:List Int):ByteArray:=⟨(l.map fun n=>UInt8.ofNat n.toNat).toArray⟩
theorem uk(l:List Int):∀acc:ByteArray,l.foldl (fun r n=>r.push (UInt8.ofNat n.toNat)) acc=⟨acc.data++(l.map fun n=>UInt8.ofNat n.toNat).toArray⟩:=by
 induction l with
 |nil=>intro acc;cases acc;simp
 |cons x r ih =>
  intro acc
  rw[List.foldl_cons,ih]
  cases acc
  simp[ByteArray.push]
theorem vz(s:ByteArray):wH (cB s)=s:=by
 unfold wH cB
 rw[List.map_map]
 have:((fun n:Int=>UInt8.ofNat n.toNat)∘fun b:UInt8=>(b.toNat:Int))=id:=by
  funext b
  simp
 rw[this,List.map_id]
theorem xS{src dst e:TypeId}(hs:P.underlying src=some (.slice e))(hd:P.underlying dst=some .string)(he:P.underlying e=some (.int .u8)){M:List Nat}{w:World}{l:List Int}{a:Option Addr}{n c:Nat}
 (hR:R (au (tI .u8)) M w l [.slice a n c]){Q:Value->World->Prop}(h:Q (.string (wH l)) w):Ev P (convert src dst (.slice a n c)) w Q:=by
 obtain⟨hn,_,_⟩:=hR.sl_len
 refine⟨_,w,?_,h⟩
 have e1:(convert src dst (.slice a n c)).run P w=(Conv.bytesToString (.slice a n c)).run P w:=by
  cases a<;>simp[convert,ai hs,ai hd,ai he]
 rw[e1]
 cases a with
 |none =>
  have:l=[]:=by
   obtain⟨a',c',h1,_,_,h4⟩:=hR
   simp only[List.cons.injEq,Value.slice.injEq,and_true]at h1
   by_cases hx:l=[]
   ·exact hx
   ·obtain⟨b,off,_,_,_,h5,_⟩:=h4 hx
    rw[<-h1.1]at h5
    cases h5
  subst this
  rfl
 |some ad =>
  obtain⟨ly,hf,h1,h2⟩:=hR.flat
  have hly:=eW hf
  subst hly
  have hl:(loadCells ad n).run P w=.ok (l.map (Value.int .u8)).toArray w:=by
   by_cases hne:l=[]
   ·subst hne
    simp at hn
    subst hn
    simp[loadCells,loadCellsFrom]
   ·have:=dm (P:=P) (sz:=1) (n:=n) (a:=some ad) (m:=n) (c:=c) (w:=w) (l:=l.map (Value.int .u8)) (by rw[List.length_map,hn,Nat.mul_one]) (fun ad' had _=>h1 ad' had hne) (fun hc=>by cases hc)
    simpa[Builtin.firstCells]using this
  rw[run_bytesToString w ad n c l hl,uk]
  unfold wH
  simp
theorem lk{k:IntKind}{x y:Int}{at_:Array TypeId}{ty:TypeId}:Pv P (Builtin.min_ at_ ty #[.int k x,.int k y]) (.int k (min x y)):=by
 refine⟨fun w=>?_⟩
 have e:(if y<x then y else x)=min x y:=by omega
 simp[Builtin.min_,Builtin.min2,e]
theorem DV{k:IntKind}{x y:Int}{at_:Array TypeId}{ty:TypeId}:Pv P (Builtin.max_ at_ ty #[.int k x,.int k y]) (.int k (max x y)):=by
 refine⟨fun w=>?_⟩
 have e:(if x<y then y else x)=max x y:=by omega
 simp[Builtin.max_,Builtin.max2,e]
theorem sA(s:ByteArray)(pos:Nat)(h:pos<s.size)(ha:128<=(s[pos]'h).toNat):128<=(Utf8.decode s pos).1/\(Utf8.decode s pos).1<=2097151/\1<=(Utf8.decode s pos).2:=by
 have e:s.get! (pos+0)=s[pos]'h:=by
  show s.get! pos=_
  simp[ByteArray.get!,getElem!_pos,h]
  rfl
 have hr:Utf8.runeError=65533:=rfl
 unfold Utf8.decode
 simp only[e]
 rw[if_neg (by omega)]
 split
 ·split
  ·refine⟨by omega,?_,by omega⟩
   show _%32*64+_%64<=_
   omega
  ·simp[hr]
 ·split
  ·split
   ·rename_i h1
    simp only[ge_iff_le,Bool.and_eq_true,decide_eq_true_eq]at h1
    refine⟨by omega,?_,by omega⟩
    show _%16*4096+_%64*64+_%64<=_
    omega
   ·simp[hr]
  ·split
   ·split
    ·rename_i h1
     simp only[ge_iff_le,Bool.and_eq_true,decide_eq_true_eq]at h1
     refine⟨by omega,?_,by omega⟩
     show _%8*262144+_%64*4096+_%64*64+_%64<=_
     omega
    ·simp[hr]
   ·simp[hr]
end Go.Vc
namespace Go.Vc
open Go Go.Proofs
open Go.Value Go.Ending Go.IntKind
set_option maxRecDepth 100000
section
variable{w:World}{R:Ending->World->Prop}
theorem CB{s:ByteArray}
 (h :
 (¬(↑s.size:Int)<(1:Int)->((12:Int)<(↑s.size:Int)->R (returned (bv false)) w)/\(¬(12:Int)<(↑s.size:Int)->Ev Zz (convert 9 33 (string s)) w fun y1 w1 =>
 ∃a1 k1 k2,y1=slice a1 k1 k2/\∃l1,KpL l1 w w1/\∃(P1:LP)(P2:LM),P1 [iv 0] w1/\∀n1 w2,P1 [iv n1] w2->(n1<(↑k1:Int)->Ad a1 n1 k1 fun d1=>∃n2,ao w2 (d1.add (n1.toNat*1)) [int u8 n2]/\(97<=n2->(¬n2<=122->(¬n1=0->(n2≠95->(¬n2<48->(57<n2->R (returned (bv false)) w2)/\(¬57<n2->ar i64 (n1+1)/\P1 [iv (n1+1)] w2/\P2 [iv (n1+1)] w2<P2 [iv n1] w2))/\(n2<48->R (returned (bv false)) w2))/\(¬n2≠95->ar i64 (n1+1)/\P1 [iv (n1+1)] w2/\P2 [iv (n1+1)] w2<P2 [iv n1] w2))/\(n1=0->R (returned (bv false)) w2))/\(¬¬n2<=122->ar i64 (n1+1)/\P1 [iv (n1+1)] w2/\P2 [iv (n1+1)] w2<P2 [iv n1] w2))/\(¬97<=n2->(¬n1=0->(n2≠95->(¬n2<48->(57<n2->R (returned (bv false)) w2)/\(¬57<n2->ar i64 (n1+1)/\P1 [iv (n1+1)] w2/\P2 [iv (n1+1)] w2<P2 [iv n1] w2))/\(n2<48->R (returned (bv false)) w2))/\(¬n2≠95->ar i64 (n1+1)/\P1 [iv (n1+1)] w2/\P2 [iv (n1+1)] w2<P2 [iv n1] w2))/\(n1=0->R (returned (bv false)) w2)))/\(¬n1<(↑k1:Int)->R (returned (bv true)) w2)))/\((↑s.size:Int)<(1:Int)->R (returned (bv false)) w)):Calls Zz 98 #[string s] w R :=
 fz { loops:=[⟨4,[17],[2,3,4,5]++rg 18 29,[]⟩] } [av (.string s)] Tryz.func98 h
theorem Cq{ds:ByteArray}{dl dh:Int}
 (h :
 ∀k1,w.heap.size<=k1->∃n1,Pv Zz (Builtin.min_ #[3,3] 3 #[iv dh,iv 1073741824]) (iv n1)/\∀w1,KpL [] w w1->R (returned (iv n1)) w1):Calls Zz 197 #[agg #[string ds,iv dl,iv dh]] w R :=
 fz {} [.a (.agg [.v (.string ds),.v (iv dl),.v (iv dh)])] Tryz.func197 h
theorem Ec{x:Int}{y:Int}
 (h :
 ∃(P1:LP)(P2:LM),P1 [iv x,iv y] w/\∀n1 n2 w1,P1 [iv n1,iv n2] w1->(n2≠0->n2≠0/\∀w2,KpL [] w1 w2->P1 [iv n2,iv (n1.tmod n2)] w2/\P2 [iv n2,iv (n1.tmod n2)] w2<P2 [iv n1,iv n2] w1)/\(¬n2≠0->R (returned (iv n1)) w1)):Calls Zz 184 #[iv x,iv y] w R :=
 fz { loops:=[⟨1,[0,1],rg 5 6,[]⟩] } [av (iv x),av (iv y)] Tryz.func184 h
theorem B3{vk vn vd:Int}{vs:ByteArray}
 (h :
 ∀k1,w.heap.size<=k1->(vd=0->∀w1,KpL [] w w1->R (returned (bv (decide (vs=ByteArray.mk #[])))) w1)/\(¬vd=0->∀w2,KpL [] w w2->R (returned (bv false)) w2)):Calls Zz 183 #[agg #[iv vk,iv vn,iv vd,string vs]] w R :=
 fz {} [.a (.agg [.v (iv vk),.v (iv vn),.v (iv vd),.v (.string vs)])] Tryz.func183 h
theorem DE{x:Int}
 (h :
 (¬x<32->R (returned (bv (decide (126<x)))) w)/\(x<32->R (returned (bv true)) w)):Calls Zz 185 #[int i32 x] w R :=
 fz {} [av (.int .i32 x)] Tryz.func185 h
theorem AL{vk vn vd:Int}{vs:ByteArray}
 (h :
 ∀k1,w.heap.size<=k1->(vk=0->∀w1,KpL [] w w1->ag Zz 183 (#[agg #[iv vk,iv vn,iv vd,string vs]]) w1 fun e1 w2 =>
 ∃b1,e1=returned (bv b1)/\KpL [] w1 w2/\(b1=true->(1<=vn->R (returned (bv (decide (vn<=255)))) w2)/\(¬1<=vn->R (returned (bv false)) w2))/\(b1=false->R (returned (bv false)) w2))/\(¬vk=0->(vk=1->∀w3,KpL [] w w3->ag Zz 183 (#[agg #[iv vk,iv vn,iv vd,string vs]]) w3 fun e2 w4 =>
 ∃b2,e2=returned (bv b2)/\KpL [] w3 w4/\(b2=true->(¬vn=0->R (returned (bv (decide (vn=1)))) w4)/\(vn=0->R (returned (bv true)) w4))/\(b2=false->R (returned (bv false)) w4))/\(¬vk=1->(vk=2->(vs=ByteArray.mk #[]->(1<=vd->(vd<=1099511627776->(-1099511627776<=vn->(vn<=1099511627776->ar i64 (0 - vn)/\∃n1,Pv Zz (Builtin.max_ #[2,2] 2 #[iv vn,iv (0 - vn)]) (iv n1)/\∀w5,KpL [] w w5->ag Zz 184 #[iv n1,iv vd] w5 fun e3 w6 =>
 ∃n2,e3=returned (iv n2)/\KpL [] w5 w6/\R (returned (bv (decide (n2=1)))) w6)/\(¬vn<=1099511627776->∀w7,KpL [] w w7->R (returned (bv false)) w7))/\(¬-1099511627776<=vn->∀w8,KpL [] w w8->R (returned (bv false)) w8))/\(¬vd<=1099511627776->∀w9,KpL [] w w9->R (returned (bv false)) w9))/\(¬1<=vd->∀w10,KpL [] w w10->R (returned (bv false)) w10))/\(¬vs=ByteArray.mk #[]->∀w11,KpL [] w w11->R (returned (bv false)) w11))/\(¬vk=2->(vk=3->(vn=0->(vd=0->((↑vs.size:Int)<=(16:Int)->∀w12,KpL [] w w12->ag Zz 186 (#[string vs,func (Fn.func 185) #[] #[]]) w12 fun e4 w13 =>
 ∃n3,e4=returned (iv n3)/\KpL [] w12 w13/\R (returned (bv (decide (n3<0)))) w13)/\(¬(↑vs.size:Int)<=(16:Int)->∀w14,KpL [] w w14->R (returned (bv false)) w14))/\(¬vd=0->∀w15,KpL [] w w15->R (returned (bv false)) w15))/\(¬vn=0->∀w16,KpL [] w w16->R (returned (bv false)) w16))/\(¬vk=3->∀w17,KpL [] w w17->R (returned (bv false)) w17))))):Calls Zz 156 #[agg #[iv vk,iv vn,iv vd,string vs]] w R :=
 fz {} [.a (.agg [.v (iv vk),.v (iv vn),.v (iv vd),.v (.string vs)])] Tryz.func156 h
theorem CE{vk vn vd:Int}{vs:ByteArray}{t:Int}
 (h :
 ∀k1,w.heap.size<=k1->∀w1,KpL [] w w1->ag Zz 156 (#[agg #[iv vk,iv vn,iv vd,string vs]]) w1 fun e1 w2 =>
 ∃b1,e1=returned (bv b1)/\KpL [] w1 w2/\((!b1)=false->(¬t<1->(4<t->R (returned (bv false)) w2)/\(¬4<t->(vk=1->R (returned (bv (decide (t=1)))) w2)/\(¬vk=1->(vk=2->(¬t=3->(t=2->R (returned (bv (decide (vd=1)))) w2)/\(¬t=2->R (returned (bv false)) w2))/\(t=3->R (returned (bv true)) w2))/\(¬vk=2->(vk=3->R (returned (bv (decide (t=4)))) w2)/\(¬vk=3->R (returned (bv true)) w2)))))/\(t<1->R (returned (bv false)) w2))/\((!b1)=true->R (returned (bv false)) w2)):Calls Zz 106 #[agg #[iv vk,iv vn,iv vd,string vs],iv t] w R :=
 fz {} [.a (.agg [.v (iv vk),.v (iv vn),.v (iv vd),.v (.string vs)]),av (iv t)] Tryz.func106 h
theorem sE{x:Int}{y:Int}
 (h :
 ag Zz 160 #[iv x] w fun e1 w1 =>
 ∃b1,e1=returned (bv b1)/\KpL [] w w1/\ag Zz 160 #[iv y] w1 fun e2 w2 =>
 ∃b2,e2=returned (bv b2)/\KpL [] w1 w2/\(b1=true->(b2=true->R (returned (iv 0)) w2)/\(b2=false->R (returned (iv (-1))) w2))/\(b1=false->(b2=true->R (returned (iv 1)) w2)/\(b2=false->(x<y->R (returned (iv (-1))) w2)/\(¬x<y->(y<x->R (returned (iv 1)) w2)/\(¬y<x->R (returned (iv 0)) w2))))):Calls Zz 121 #[iv x,iv y] w R :=
 fz {} [av (iv x),av (iv y)] Tryz.func121 h
theorem BX{x:Int}
 (h :
 R (returned (bv (decide (x≠x)))) w):Calls Zz 160 #[iv x] w R :=
 fz {} [av (iv x)] Tryz.func160 h
theorem rD{aa:Option Addr}{an ac:Nat}{ba:Option Addr}{bn bc:Nat}
 (h :
 ag Zz 122 #[slice aa an ac,slice ba bn bc] w fun e1 w1 =>
 ∃n1,e1=returned (iv n1)/\KpL [] w w1/\R (returned (iv n1)) w1):Calls Zz 138 #[slice aa an ac,slice ba bn bc] w R :=
 fz {} [av (.slice aa an ac),av (.slice ba bn bc)] Tryz.func138 h
theorem DL{aa:Option Addr}{an ac:Nat}{ba:Option Addr}{bn bc:Nat}
 (h :
 ((↑bn:Int)≠(↑an:Int)->R (returned (bv false)) w)/\(¬(↑bn:Int)≠(↑an:Int)->∃(P1:LP)(P2:LM),P1 [iv 0] w/\∀n1 w1,P1 [iv n1] w1->(n1<(↑bn:Int)->Ad ba n1 bn fun d1=>∃n2,ao w1 (d1.add (n1.toNat*1)) [iv n2]/\Ad aa n1 an fun d2=>∃n3,ao w1 ((d2.add (n1.toNat*3)).add 1) [iv n3]/\(¬n2<n3->Ad aa n1 an fun d3=>∃s1 n4 n5,ao w1 (d3.add (n1.toNat*3)) [string s1,iv n4,iv n5]/\ag Zz 197 (#[agg #[string s1,iv n4,iv n5]]) w1 fun e1 w2 =>
 ∃n6,e1=returned (iv n6)/\KpL [] w1 w2/\(n6<n2->R (returned (bv false)) w2)/\(¬n6<n2->ar i64 (n1+1)/\P1 [iv (n1+1)] w2/\P2 [iv (n1+1)] w2<P2 [iv n1] w1))/\(n2<n3->R (returned (bv false)) w1))/\(¬n1<(↑bn:Int)->R (returned (bv true)) w1))):Calls Zz 163 #[slice aa an ac,slice ba bn bc] w R :=
 fz { loops:=[⟨4,[14],[4,5,6]++rg 15 21,[]⟩] } [av (.slice aa an ac),av (.slice ba bn bc)] Tryz.func163 h
theorem Cu{aa:Option Addr}{an ac:Nat}{ba:Option Addr}{bn bc:Nat}{cxa:Option Addr}{cxn cxc:Nat}{cya:Option Addr}{cyn cyc:Nat}
 (h :
 ∀k1,w.heap.size<=k1->(¬(↑cxn:Int)≠(↑an:Int)->((↑cyn:Int)≠(↑bn:Int)->∀w1,KpL [] w w1->R (returned (iv 13)) w1)/\(¬(↑cyn:Int)≠(↑bn:Int)->∀w2,KpL [] w w2->ag Zz 163 #[slice aa an ac,slice cxa cxn cxc] w2 fun e1 w3 =>
 ∃b1,e1=returned (bv b1)/\KpL [] w2 w3/\((!b1)=true->R (returned (iv 3)) w3)/\((!b1)=false->∃(P1:LP)(P2:LM),P1 [iv 0] w3/\∀n1 w4,P1 [iv n1] w4->(n1<(↑cyn:Int)->Ad cya n1 cyn fun d1=>∃n2 n3 n4 s1,ao w4 (d1.add (n1.toNat*4)) [iv n2,iv n3,iv n4,string s1]/\∀k2,w4.heap.size<=k2->Ad ba n1 bn fun d2=>∃n5,ao w4 ((d2.add (n1.toNat*2)).add 1) [iv n5]/\∀w5,KpL [] w4 w5->ag Zz 106 (#[agg #[iv n2,iv n3,iv n4,string s1],iv n5]) w5 fun e2 w6 =>
 ∃b2,e2=returned (bv b2)/\KpL [] w5 w6/\((!b2)=true->R (returned (iv 12)) w6)/\((!b2)=false->ar i64 (n1+1)/\P1 [iv (n1+1)] w6/\P2 [iv (n1+1)] w6<P2 [iv n1] w4))/\(¬n1<(↑cyn:Int)->R (returned (iv 0)) w4))))/\((↑cxn:Int)≠(↑an:Int)->∀w7,KpL [] w w7->R (returned (iv 13)) w7)):Calls Zz 134 #[slice aa an ac,slice ba bn bc,agg #[slice cxa cxn cxc,slice cya cyn cyc]] w R :=
 fz { loops:=[⟨6,[31],[6,7,8]++rg 32 13,[]⟩] } [av (.slice aa an ac),av (.slice ba bn bc),.a (.agg [.v (.slice cxa cxn cxc),.v (.slice cya cyn cyc)])] Tryz.func134 h
theorem xd{cxa:Option Addr}{cxn cxc:Nat}{cya:Option Addr}{cyn cyc:Nat}
 (h :
 ∀k1,w.heap.size<=k1->∀k2,w.heap.size<=k2->∀w1,KpL [] w w1->Hb w1 k2 #[slice none 0 0,slice none 0 0] 147/\Hb w1 k1 #[slice cxa cxn cxc,slice cya cyn cyc] 147->ag Zz 68 #[slice cxa cxn cxc] w1 fun e1 w2 =>
 ∃a1 k3 k4,e1=returned (slice a1 k3 k4)/\KpL [] w1 w2/\(Hb w2 k2 #[slice none 0 0,slice none 0 0] 147/\Hb w2 k1 #[slice cxa cxn cxc,slice cya cyn cyc] 147->ag Zz 77 #[slice cya cyn cyc] w2 fun e2 w3 =>
 ∃a2 k5 k6,e2=returned (slice a2 k5 k6)/\KpL [] w2 w3/\∀w4,KpL [k2] w3 w4->Hb w4 k2 #[slice a1 k3 k4,slice a2 k5 k6] 147/\Hb w4 k1 #[slice cxa cxn cxc,slice cya cyn cyc] 147->R (returned (agg #[slice a1 k3 k4,slice a2 k5 k6])) w4)):Calls Zz 166 #[agg #[slice cxa cxn cxc,slice cya cyn cyc]] w R :=
 fz { all:=true } [.a (.agg [.v (.slice cxa cxn cxc),.v (.slice cya cyn cyc)])] Tryz.func166 h
theorem yD{bxa:Option Addr}{bxn bxc:Nat}{bya:Option Addr}{byn byc:Nat}
 (h :
 ∀k1,w.heap.size<=k1->((↑bxn:Int)=(↑byn:Int)->((0:Int)<(↑bxn:Int)->∀w1,KpL [] w w1->R (returned (bv (decide ((↑bxn:Int)<=(4:Int))))) w1)/\(¬(0:Int)<(↑bxn:Int)->∀w2,KpL [] w w2->R (returned (bv false)) w2))/\(¬(↑bxn:Int)=(↑byn:Int)->∀w3,KpL [] w w3->R (returned (bv false)) w3)):Calls Zz 154 #[agg #[slice bxa bxn bxc,slice bya byn byc]] w R :=
 fz {} [.a (.agg [.v (.slice bxa bxn bxc),.v (.slice bya byn byc)])] Tryz.func154 h
theorem Cw{x:Int}{y:Int}
 (h :
 (¬x<=y->R (returned (bv (decide (1073741825<=y)))) w)/\(x<=y->R (returned (bv true)) w)):Calls Zz 155 #[iv x,iv y] w R :=
 fz {} [av (iv x),av (iv y)] Tryz.func155 h
theorem DS{bxa:Option Addr}{bxn bxc:Nat}{bya:Option Addr}{byn byc:Nat}{ca:Option Addr}{cn cc:Nat}
 (h :
 ∀k1,w.heap.size<=k1->∀w1,KpL [] w w1->ag Zz 154 (#[agg #[slice bxa bxn bxc,slice bya byn byc]]) w1 fun e1 w2 =>
 ∃b1,e1=returned (bv b1)/\KpL [] w1 w2/\((!b1)=false->((↑cn:Int)≠(↑bxn:Int)->R (returned (bv false)) w2)/\(¬(↑cn:Int)≠(↑bxn:Int)->∃(P1:LP)(P2:LM),P1 [iv 0] w2/\∀n1 w3,P1 [iv n1] w3->(n1<(↑cn:Int)->Ad ca n1 cn fun d1=>∃n2,ao w3 (d1.add (n1.toNat*1)) [iv n2]/\Ad bxa n1 bxn fun d2=>∃n3,ao w3 (d2.add (n1.toNat*1)) [iv n3]/\(¬n2<n3->Ad bya n1 byn fun d3=>∃n4,ao w3 (d3.add (n1.toNat*1)) [iv n4]/\ag Zz 155 #[iv n2,iv n4] w3 fun e2 w4 =>
 ∃b2,e2=returned (bv b2)/\KpL [] w3 w4/\((!b2)=true->R (returned (bv false)) w4)/\((!b2)=false->ar i64 (n1+1)/\P1 [iv (n1+1)] w4/\P2 [iv (n1+1)] w4<P2 [iv n1] w3))/\(n2<n3->R (returned (bv false)) w3))/\(¬n1<(↑cn:Int)->R (returned (bv true)) w3)))/\((!b1)=true->R (returned (bv false)) w2)):Calls Zz 105 #[agg #[slice bxa bxn bxc,slice bya byn byc],slice ca cn cc] w R :=
 fz { loops:=[⟨4,[20],[4,5,6]++rg 21 22,[]⟩] } [.a (.agg [.v (.slice bxa bxn bxc),.v (.slice bya byn byc)]),av (.slice ca cn cc)] Tryz.func105 h
theorem qS{s:ByteArray}{f:Nat}{fi ca:Array Value}{b:Bool}
 (h :
 Ev Zz (Instr.range 9 (string s)) w fun y1 w1 =>
 ∃d1,y1=pointer (some d1)/\∃l1,KpL l1 w w1/\∃(P1:LP)(P2:LM),P1 [] w1/\∀w2,P1 [] w2->Ev Zz (Instr.next (pointer (some d1)) true 0) w2 fun y2 w3 =>
 (y2=tuple #[bv false]/\∃l2,KpL l2 w2 w3/\R (returned (iv (-1))) w3)∨
 (∃n1 n2,y2=tuple #[bv true,iv n1,int i32 n2]/\∃l3,KpL l3 w2 w3/\cR Zz f/\ag Zz f ((fi.toList++[int i32 n2]++ca.toList).toArray) w3 fun e1 w4 =>
 ∃b1,e1=returned (bv b1)/\∃l4,KpL l4 w3 w4/\((b1 == b)=true->R (returned (iv n1)) w4)/\((b1 == b)=false->P1 [] w4/\P2 [] w4<P2 [] w2))):Calls Zz 204 #[string s,func (Fn.func f) fi ca,bv b] w R :=
 fz { loops:=[⟨2,[],[6,7,8]++rg 11 10,[]⟩],ent:=[3,21] } [av (.string s),av (.func (.func f) fi ca),av (.bool b)] Tryz.func204 h
theorem qU{s:ByteArray}{f:Nat}{fi ca:Array Value}
 (h :
 ag Zz 204 #[string s,func (Fn.func f) fi ca,bv true] w fun e1 w1 =>
 ∃n1,e1=returned (iv n1)/\KpL [] w w1/\R (returned (iv n1)) w1):Calls Zz 186 #[string s,func (Fn.func f) fi ca] w R :=
 fz {} [av (.string s),av (.func (.func f) fi ca)] Tryz.func186 h
end
end Go.Vc
namespace Go.Vc
open Go Go.Proofs
def gn(i:Nat)(c:Int):Bool:=(decide (97<=c)&&decide (c<=122)) || (decide (i≠0)&&(decide (c=95) || (decide (48<=c)&&decide (c<=57))))
def fJ:Nat->List Int->Bool
 |_,[]=>true
 |i,c::r=>gn i c&&fJ (i+1) r
def bx(s:ByteArray):Bool:=decide (1<=s.size)&&(decide (s.size<=12)&&fJ 0 (cB s))
theorem FG:Tryz.prog.underlying 33=some (.slice 5):=by kernel_rfl
theorem u5:Tryz.prog.underlying 5=some (.int .u8):=by kernel_rfl
theorem m9(s:ByteArray)(w:World):Calls Zz 98 #[.string s] w (aA (.bool (bx s)) w):=by
 refine CB ⟨fun h1=>⟨fun h2=>⟨?_,KpL.refl _ _⟩,fun h2=>?_⟩,fun h1=>⟨?_,KpL.refl _ _⟩⟩
 ·have:bx s=false:=by unfold bx;rw[decide_eq_false (p:=s.size<=12) (by omega)];simp
  rw[this]
 ·refine zJ u9 FG u5 (by have:az=140737488355328:=rfl;omega) fun a c w1 hk1 hR=>⟨_,_,_,rfl,_,hk1,fun vs w'=>∃i:Nat,vs=[iv (i:Int)]/\i<=s.size/\KpL [] w1 w'/\bx s=fJ i ((cB s).drop i),
   fun vs _=>match vs with|[.int _ i]=>s.size - i.toNat|_=>0,⟨0,rfl,by omega,KpL.refl _ _,?_⟩,?_⟩
  ·unfold bx
   rw[decide_eq_true (p:=1<=s.size) (by omega),decide_eq_true (p:=s.size<=12) (by omega)]
   simp
  rintro n1 w2 ⟨i,hv,hi,hk2,he⟩
  obtain rfl:=v1 hv
  have hRs:=(hR [] (by simp)).kp0 hk2
  constructor
  ·intro hlt
   have hil:i<(cB s).length:=by rw[bo];omega
   obtain⟨ad,cs,rfl,hv1,hld,_,_⟩:=hRs.sl_get hil
   obtain⟨rfl,hin⟩:=hv1.intD
   rw[List.drop_eq_getElem_cons hil,fJ]at he
   generalize (cB s)[i]=x at *
   have stop:gn i x=false->aA (.bool (bx s)) w (.returned (.bool false)) w2:=fun h=>⟨by rw[he,h];rfl,hk1.trans hk2⟩
   have cont:gn i x=true->ar .i64 ((i:Int)+1)/\(∃j:Nat,[Value.int .i64 ((i:Int)+1)]=[iv (j:Int)]/\j<=s.size/\KpL [] w1 w2/\bx s=fJ j ((cB s).drop j))/\s.size - ((i:Int)+1).toNat<s.size - (i:Int).toNat:=fun h =>
    ⟨ae.2 (by omega),⟨i+1,by simp,by omega,hk2,by rw[he,h];simp⟩,by omega⟩
   refine⟨ad,rfl,by omega,hlt,x,hld,fun g1=>⟨fun g2=>⟨fun g3=>⟨fun g4=>⟨fun g5=>⟨fun g6=>stop ?_,fun g6=>cont ?_⟩,fun g5=>stop ?_⟩,fun g4=>cont ?_⟩,fun g3=>stop ?_⟩,fun g2=>cont ?_⟩,
    fun g1=>⟨fun g3=>⟨fun g4=>⟨fun g5=>⟨fun g6=>stop ?_,fun g6=>cont ?_⟩,fun g5=>stop ?_⟩,fun g4=>cont ?_⟩,fun g3=>stop ?_⟩⟩<;>simp[gn]<;>omega
  ·intro hge
   have hi':i=s.size:=by omega
   rw[hi',List.drop_eq_nil_of_le (by rw[bo];exact Nat.le_refl _)]at he
   exact⟨by rw[he];rfl,hk1.trans hk2⟩
 ·have:bx s=false:=by unfold bx;rw[decide_eq_false (p:=1<=s.size) (by omega)];rfl
  rw[this]
def dI.last(d:dI):Int:=min d.hi 1073741824
theorem CH(d:dI)(w:World):Calls Zz 197 #[.agg #[.string d.name,iv d.lo,iv d.hi]] w (aA (iv d.last) w) :=
 Cq fun _ _=>⟨_,lk,fun _ hk=>⟨rfl,hk⟩⟩
theorem Eg{x y:Int}(hx:0<=x)(hy:0<=y)(w:World):Calls Zz 184 #[iv x,iv y] w (aA (iv (Nat.gcd x.toNat y.toNat)) w):=by
 refine Ec ⟨fun vs w'=>∃a b:Nat,vs=[iv (a:Int),iv (b:Int)]/\KpL [] w w'/\Nat.gcd a b=Nat.gcd x.toNat y.toNat,fun vs _=>match vs with|[_,.int _ b]=>b.toNat|_=>0,
  ⟨x.toNat,y.toNat,by rw[Int.toNat_of_nonneg hx,Int.toNat_of_nonneg hy],KpL.refl _ _,rfl⟩,?_⟩
 rintro n1 n2 w1 ⟨a,b,hv,hk,he⟩
 simp only[List.cons.injEq,Value.int.injEq,true_and,and_true]at hv
 obtain⟨rfl,rfl⟩:=hv
 have hm:Int.tmod (a:Int) (b:Int)=((a%b:Nat):Int):=by rw[Int.tmod_eq_emod_of_nonneg (by omega),Int.natCast_emod]
 constructor
 ·intro hne
  have hb:0<b:=by omega
  have:=Nat.mod_lt a hb
  refine⟨hne,fun w2 hk2=>⟨⟨b,a%b,by rw[hm],hk.trans hk2,?_⟩,?_⟩⟩
  ·rw[<-he,Nat.gcd_comm b,<-Nat.gcd_rec,Nat.gcd_comm]
  ·rw[hm]
   show((a%b:Nat):Int).toNat<(b:Int).toNat
   omega
 ·intro hz
  have hb:b=0:=by omega
  subst hb
  rw[Nat.gcd_zero_right]at he
  exact⟨by rw[he],hk⟩
def Vl.plain(v:Vl):Bool:=decide (v.d=0)&&decide (v.s=ByteArray.empty)
abbrev Vl.agg(v:Vl):Value:=.agg #[iv v.k,iv v.n,iv v.d,.string v.s]
theorem tO(v:Vl)(w:World):Calls Zz 183 #[v.agg] w (aA (.bool v.plain) w):=by
 refine B3 fun _ _=>⟨fun h w1 hk=>⟨?_,hk⟩,fun h w1 hk=>⟨?_,hk⟩⟩
 ·unfold Vl.plain
  rw[decide_eq_true h]
  rfl
 ·unfold Vl.plain
  rw[decide_eq_false h]
  rfl
def fY(l:List Int):Bool:=l.all fun c=>decide (32<=c)&&decide (c<=126)
theorem DW(x:Int)(w:World):Calls Zz 185 #[.int .i32 x] w (aA (.bool (!(decide (32<=x)&&decide (x<=126)))) w):=by
 refine DE ⟨fun h=>⟨?_,KpL.refl _ _⟩,fun h=>⟨?_,KpL.refl _ _⟩⟩
 ·rw[decide_eq_true (p:=32<=x) (by omega)]
  by_cases h2:126<x
  ·simp[h2]
  ·simp[h2];omega
 ·rw[decide_eq_false (p:=32<=x) (by omega)]
  rfl
end Go.Vc
namespace Go.Vc
open Go Go.Proofs
theorem sY{P:Program}{w:World}{r pos ty:Nat}{s:ByteArray}(h:w.heap[r]?=some (.stringIter s pos)){Q:Value->World->Prop}(h1:¬pos<s.size->Q (.tuple #[.bool false]) w)
 (h2:pos<s.size->∀w',w'.heap[r]?=some (.stringIter s (pos+(Utf8.decode s pos).2))->KpL [r] w w'->Q (.tuple #[.bool true,iv pos,.int .i32 ((Utf8.decode s pos).1:Nat)]) w'):
 Ev P (Instr.next (pK r) true ty) w Q:=by
 by_cases hp:pos<s.size
 ·refine⟨_,{ w with heap:=w.heap.setIfInBounds r (.stringIter s (pos+(Utf8.decode s pos).2)) },?_,h2 hp _ ?_ ⟨rfl,rfl,rfl,Nat.le_refl _,by simp,fun b hb hn=>?_⟩⟩
  ·simp[Instr.next,getObj,setObj,Sem.run,h,hp,Result.andThen,goInt]
  ·have hr:=ab h
   simp[hr]
  ·simp only[List.mem_singleton]at hn
   simp[Array.getElem?_setIfInBounds,Ne.symm hn]
 ·refine⟨_,w,?_,h1 hp⟩
  simp[Instr.next,getObj,Sem.run,h,hp,Result.andThen]
theorem uv(s:ByteArray)(w:World):Calls Zz 186 #[.string s,.func (.func 185) #[] #[]] w fun e w'=>KpL [] w w'/\∃n,e=.returned (iv n)/\(n<0↔fY (cB s)=true):=by
 refine qU ⟨Calls.mono (R:=fun e w'=>KpL [] w w'/\∃n,e=.returned (iv n)/\(n<0↔fY (cB s)=true)) ?_ ?_⟩
 ·refine qS ⟨_,_,run_range_string w 9 s u9,?_⟩
  have hk1:KpL [] w (w.iter s 0):=(KpL.refl [] w).alloc _
  have hb1:(w.iter s 0).heap[w.heap.size]?=some (.stringIter s 0):=World.iter_heap w s 0
  refine⟨_,rfl,[],hk1,fun vs w'=>vs=[]/\KpL [] w w'/\∃pos,w'.heap[w.heap.size]?=some (.stringIter s pos)/\pos<=s.size/\fY ((cB s).take pos)=true,
   fun _ w'=>match w'.heap[w.heap.size]? with|some (.stringIter _ pos)=>s.size - pos|_=>0,⟨rfl,hk1,0,hb1,by omega,rfl⟩,?_⟩
  rintro w2 ⟨_,hk2,pos,hb2,hpos,ht⟩
  refine sY hb2 (fun hge=>.inl ⟨rfl,[],KpL.refl _ _,hk2,_,rfl,?_⟩) fun hlt w3 hb3 hk3=>.inr ⟨_,_,rfl,[_],hk3,⟨_,_,Tryz.func185,rfl⟩,⟨(DW _ w3).mono ?_⟩⟩
  ·rw[List.take_of_length_le (by rw[bo];omega)]at ht
   simp[ht]
  have hk03:KpL [] w w3:=hk2.more hk3 (by simp)
  have hil:pos<(cB s).length:=by rw[bo];exact hlt
  have hget:(cB s)[pos]=((s[pos]'hlt).toNat:Int):=by
   rw[om s pos hlt]
   have:pos<s.data.toList.length:=by rw[Array.length_toList];exact hlt
   rw[List.getD_eq_getElem?_getD,List.getElem?_eq_getElem this,Option.getD_some]
   rfl
  rintro e w4 ⟨rfl,hk4⟩
  by_cases hasc:(s[pos]'hlt).toNat<128
  ·have hd:=decode_ascii s pos hlt hasc
   rw[hd]at hb3 ⊢
   refine⟨_,rfl,[],hk4,fun hodd=>?_,fun hev=>?_⟩
   ·refine⟨hk03.trans hk4,_,rfl,?_⟩
    simp only[beq_true,Bool.not_eq_true',Bool.and_eq_false_iff,decide_eq_false_iff_not]at hodd
    constructor
    ·intro h;omega
    ·intro h
     have:=List.all_eq_true.1 h _ (List.getElem_mem hil)
     rw[hget]at this
     simp at this
     omega
   ·have hb4:=(hk4.blk _ (ab hb3) (by simp)).trans hb3
    simp only[beq_true,Bool.not_eq_false',Bool.and_eq_true,decide_eq_true_eq]at hev
    refine⟨⟨rfl,hk03.trans hk4,pos+1,hb4,hlt,?_⟩,?_⟩
    ·rw[<-List.take_append_getElem hil]
     unfold fY at ht ⊢
     rw[List.all_append,ht,hget]
     simp[hev]
    ·simp only[hb4,hb2]
     omega
  ·have hd:=sA s pos hlt (by omega)
   refine⟨_,rfl,[],hk4,fun _=>⟨hk03.trans hk4,_,rfl,?_⟩,fun hev=>?_⟩
   ·constructor
    ·intro h;omega
    ·intro h
     have:=List.all_eq_true.1 h _ (List.getElem_mem hil)
     rw[hget]at this
     simp at this
     omega
   ·simp only[beq_true,Bool.not_eq_false',Bool.and_eq_true,decide_eq_true_eq]at hev
    omega
 ·rintro e w1 ⟨hk,n,rfl,hn⟩
  exact⟨_,rfl,hk,hk,_,rfl,hn⟩
def Vl.right(v:Vl):Bool :=
 if v.k=0 then v.plain&&(decide (1<=v.n)&&decide (v.n<=255))
 else if v.k=1 then v.plain&&(decide (v.n=0) || decide (v.n=1))
 else if v.k=2 then decide (v.s=ByteArray.empty)&&(decide (1<=v.d)&&(decide (v.d<=1099511627776)&&(decide (-1099511627776<=v.n)&&(decide (v.n<=1099511627776)&&decide (Nat.gcd (max v.n (0 - v.n)).toNat v.d.toNat=1)))))
 else if v.k=3 then decide (v.n=0)&&(decide (v.d=0)&&(decide (v.s.size<=16)&&fY (cB v.s)))
 else false
theorem zu(v:Vl)(w:World):Calls Zz 156 #[v.agg] w (aA (.bool v.right) w):=by
 have fl:∀{w':World} {b:Bool},b=v.right->KpL [] w w'->aA (.bool v.right) w (.returned (.bool b)) w':=by
  rintro w' b rfl hk;exact⟨rfl,hk⟩
 refine AL fun _ _=>⟨fun h0 w1 hk1=>⟨(tO v w1).mono ?_⟩,fun h0=>⟨fun h1 w1 hk1=>⟨(tO v w1).mono ?_⟩,fun h1=>⟨fun h2=>?_,fun h2=>⟨fun h3=>?_,fun h3 w1 hk1=>fl ?_ hk1⟩⟩⟩⟩
 ·rintro e w2 ⟨rfl,hk2⟩
  have e0:v.right=(v.plain&&(decide (1<=v.n)&&decide (v.n<=255))):=by unfold Vl.right;rw[if_pos h0]
  refine⟨_,rfl,hk2,fun hp=>⟨fun hn=>fl ?_ (hk1.trans hk2),fun hn=>fl ?_ (hk1.trans hk2)⟩,fun hp=>fl ?_ (hk1.trans hk2)⟩<;>rw[e0,hp]<;>simp[*]
 ·rintro e w2 ⟨rfl,hk2⟩
  have e0:v.right=(v.plain&&(decide (v.n=0) || decide (v.n=1))):=by unfold Vl.right;rw[if_neg h0,if_pos h1]
  refine⟨_,rfl,hk2,fun hp=>⟨fun hn=>fl ?_ (hk1.trans hk2),fun hn=>fl ?_ (hk1.trans hk2)⟩,fun hp=>fl ?_ (hk1.trans hk2)⟩<;>rw[e0,hp]<;>simp[*]
 ·have e0:v.right=(decide (v.s=ByteArray.empty)&&(decide (1<=v.d)&&(decide (v.d<=1099511627776)&&(decide (-1099511627776<=v.n)&&(decide (v.n<=1099511627776)&&decide (Nat.gcd (max v.n (0 - v.n)).toNat v.d.toNat=1)))))):=by
   unfold Vl.right;rw[if_neg h0,if_neg h1,if_pos h2]
  refine⟨fun g1=>⟨fun g2=>⟨fun g3=>⟨fun g4=>⟨fun g5=>⟨ae.2 (by omega),_,DV,fun w1 hk1=>⟨(Eg (by omega) (by omega) w1).mono ?_⟩⟩,fun g5 w1 hk1=>fl ?_ hk1⟩,fun g4 w1 hk1=>fl ?_ hk1⟩,fun g3 w1 hk1=>fl ?_ hk1⟩,fun g2 w1 hk1=>fl ?_ hk1⟩,fun g1 w1 hk1=>fl ?_ hk1⟩
  ·rintro e w2 ⟨rfl,hk2⟩
   refine⟨_,rfl,hk2,fl ?_ (hk1.trans hk2)⟩
   have g1':v.s=ByteArray.empty:=g1
   rw[e0,decide_eq_true g1',decide_eq_true g2,decide_eq_true g3,decide_eq_true g4,decide_eq_true g5]
   simp only[Bool.true_and,decide_eq_decide]
   omega
  ·rw[e0,decide_eq_false g5];simp
  ·rw[e0,decide_eq_false g4];simp
  ·rw[e0,decide_eq_false g3];simp
  ·rw[e0,decide_eq_false g2];simp
  ·rw[e0,decide_eq_false (p:=v.s=ByteArray.empty) g1];simp
 ·have e0:v.right=(decide (v.n=0)&&(decide (v.d=0)&&(decide (v.s.size<=16)&&fY (cB v.s)))):=by unfold Vl.right;rw[if_neg h0,if_neg h1,if_neg h2,if_pos h3]
  refine⟨fun g1=>⟨fun g2=>⟨fun g3 w1 hk1=>⟨(uv v.s w1).mono ?_⟩,fun g3 w1 hk1=>fl ?_ hk1⟩,fun g2 w1 hk1=>fl ?_ hk1⟩,fun g1 w1 hk1=>fl ?_ hk1⟩
  ·rintro e w2 ⟨hk2,n,rfl,hn⟩
   refine⟨_,rfl,hk2,fl ?_ (hk1.trans hk2)⟩
   rw[e0,decide_eq_true g1,decide_eq_true g2,decide_eq_true (p:=v.s.size<=16) (by omega),Bool.true_and,Bool.true_and,Bool.true_and,Bool.eq_iff_iff,decide_eq_true_eq]
   exact hn
  ·rw[e0,decide_eq_false (p:=v.s.size<=16) (by omega)];simp
  ·rw[e0,decide_eq_false g2];simp
  ·rw[e0,decide_eq_false g1];simp
 ·unfold Vl.right;rw[if_neg h0,if_neg h1,if_neg h2,if_neg h3]
end Go.Vc
namespace Go.Vc
open Go Go.Proofs
def Vl.fits(v:Vl)(t:Int):Bool :=
 v.right&&(decide (1<=t)&&(decide (t<=4)&&(if v.k=1 then decide (t=1) else if v.k=2 then (decide (t=3) || (decide (t=2)&&decide (v.d=1))) else if v.k=3 then decide (t=4) else true)))
theorem wu(v:Vl)(t:Int)(w:World):Calls Zz 106 #[v.agg,iv t] w (aA (.bool (v.fits t)) w):=by
 refine CE fun _ _ w1 hk1=>⟨(zu v w1).mono ?_⟩
 rintro e w2 ⟨rfl,hk2⟩
 have fl:∀{b:Bool},b=v.fits t->aA (.bool (v.fits t)) w (.returned (.bool b)) w2:=by
  rintro b rfl;exact⟨rfl,hk1.trans hk2⟩
 refine⟨_,rfl,hk2,fun hr=>⟨fun h1=>⟨fun h2=>fl ?_,fun h2=>⟨fun h3=>fl ?_,fun h3=>⟨fun h4=>⟨fun h5=>⟨fun h6=>fl ?_,fun h6=>fl ?_⟩,fun h5=>fl ?_⟩,fun h4=>⟨fun h5=>fl ?_,fun h5=>fl ?_⟩⟩⟩⟩,fun h1=>fl ?_⟩,fun hr=>fl ?_⟩
 all_goals unfold Vl.fits
 ·rw[decide_eq_false (p:=t<=4) (by omega)];simp
 ·rw[show v.right=true from by simpa using hr,decide_eq_true (p:=1<=t) (by omega),decide_eq_true (p:=t<=4) (by omega),if_pos h3];simp
 ·rw[show v.right=true from by simpa using hr,decide_eq_true (p:=1<=t) (by omega),decide_eq_true (p:=t<=4) (by omega),if_neg h3,if_pos h4,decide_eq_false h5,decide_eq_true h6];simp
 ·rw[if_neg h3,if_pos h4,decide_eq_false h5,decide_eq_false h6];simp
 ·rw[show v.right=true from by simpa using hr,decide_eq_true (p:=1<=t) (by omega),decide_eq_true (p:=t<=4) (by omega),if_neg h3,if_pos h4,decide_eq_true h5];simp
 ·rw[show v.right=true from by simpa using hr,decide_eq_true (p:=1<=t) (by omega),decide_eq_true (p:=t<=4) (by omega),if_neg h3,if_neg h4,if_pos h5];simp
 ·rw[show v.right=true from by simpa using hr,decide_eq_true (p:=1<=t) (by omega),decide_eq_true (p:=t<=4) (by omega),if_neg h3,if_neg h4,if_neg h5];simp
 ·rw[decide_eq_false (p:=1<=t) (by omega)];simp
 ·rw[show v.right=false from by simpa using hr];simp
def eN(x y:Int):Int:=if x<y then -1 else if y<x then 1 else 0
def aY:List Int->List Int->Int
 |[],[]=>0
 |[],_::_ => -1
 |_::_,[]=>1
 |x::r,y::s=>if eN x y≠0 then eN x y else aY r s
theorem tF(x:Int)(w:World):Calls Zz 160 #[iv x] w (aA (.bool false) w):=BX ⟨by simp,KpL.refl _ _⟩
theorem mq(x y:Int)(w:World):Calls Zz 121 #[iv x,iv y] w (aA (iv (eN x y)) w):=by
 refine sE ⟨(tF x w).mono ?_⟩
 rintro e w1 ⟨rfl,hk1⟩
 refine⟨_,rfl,hk1,⟨(tF y w1).mono ?_⟩⟩
 rintro e w2 ⟨rfl,hk2⟩
 refine⟨_,rfl,hk2,fun hc=>by simp at hc,fun _=>⟨fun hc=>by simp at hc,fun _=>⟨fun h=>⟨?_,hk1.trans hk2⟩,fun h=>⟨fun h2=>⟨?_,hk1.trans hk2⟩,fun h2=>⟨?_,hk1.trans hk2⟩⟩⟩⟩⟩
 ·unfold eN;rw[if_pos h]
 ·unfold eN;rw[if_neg h,if_pos h2]
 ·unfold eN;rw[if_neg h,if_neg h2]
theorem nh{M M':List Nat}{w:World}{xs ys:List Int}{a b:Option Addr}{n c m q:Nat}(hx:R (au (tI .i64)) M w xs [.slice a n c])(hy:R (au (tI .i64)) M' w ys [.slice b m q]):
 Calls Zz 122 #[.slice a n c,.slice b m q] w (aA (iv (aY xs ys)) w):=by
 obtain⟨rfl,hn1,hn2⟩:=hx.sl_len
 obtain⟨rfl,hm1,hm2⟩:=hy.sl_len
 have hmx:az=140737488355328:=rfl
 refine oX ⟨fun vs w'=>∃i:Nat,vs=[iv (i:Int)]/\i<=xs.length/\i<=ys.length/\KpL [] w w'/\aY (xs.drop i) (ys.drop i)=aY xs ys,fun vs _=>match vs with|[.int _ i]=>xs.length - i.toNat|_=>0,
  ⟨0,rfl,by omega,by omega,KpL.refl _ _,rfl⟩,?_⟩
 rintro n1 w1 ⟨i,hv,hi,hi2,hk,he⟩
 obtain rfl:=v1 hv
 constructor
 ·intro hlt
  have h1:i<xs.length:=by omega
  obtain⟨ad,cs,rfl,hv1,hld1,_,_⟩:=(hx.kp0 hk).sl_get h1
  obtain⟨rfl,hok1⟩:=hv1.intD
  rw[List.drop_eq_getElem_cons h1]at he
  refine⟨ad,rfl,by omega,hlt,_,hld1,fun hge=>?_,fun hlt2=>?_⟩
  ·rw[show ys.drop i=[] from List.drop_eq_nil_of_le (by omega)]at he
   exact⟨by rw[<-he];rfl,hk⟩
  ·have h2:i<ys.length:=by omega
   obtain⟨ad2,cs2,rfl,hv2,hld2,_,_⟩:=(hy.kp0 hk).sl_get h2
   obtain⟨rfl,hok2⟩:=hv2.intD
   rw[List.drop_eq_getElem_cons h2,aY]at he
   refine⟨ad2,rfl,by omega,by omega,_,hld2,⟨(mq _ _ w1).mono ?_⟩⟩
   rintro e w2 ⟨rfl,hk2⟩
   refine⟨_,rfl,hk2,fun hne=>⟨?_,hk.trans hk2⟩,fun hz=>⟨ae.2 (by omega),⟨i+1,by simp,by omega,by omega,hk.trans hk2,?_⟩,?_⟩⟩
   ·rw[if_pos hne]at he;rw[he]
   ·rw[if_neg hz]at he;exact he
   ·show xs.length - ((i:Int)+1).toNat<xs.length - (i:Int).toNat
    omega
 ·intro hge
  have hix:i=xs.length:=by omega
  rw[hix,List.drop_length]at he
  refine⟨fun hlt=>⟨?_,hk⟩,fun hnl=>⟨?_,hk⟩⟩
  ·have h2:xs.length<ys.length:=by omega
   rw[List.drop_eq_getElem_cons h2]at he
   rw[<-he];rfl
  ·rw[show ys.drop xs.length=[] from List.drop_eq_nil_of_le (by omega)]at he
   rw[<-he];rfl
theorem iN{M M':List Nat}{w:World}{xs ys:List Int}{a b:Option Addr}{n c m q:Nat}(hx:R (au (tI .i64)) M w xs [.slice a n c])(hy:R (au (tI .i64)) M' w ys [.slice b m q]):
 Calls Zz 138 #[.slice a n c,.slice b m q] w (aA (iv (aY xs ys)) w):=by
 refine rD ⟨(nh hx hy).mono ?_⟩
 rintro e w1 ⟨rfl,hk⟩
 exact⟨_,rfl,hk,rfl,hk⟩
structure aR where
 at_:List Int
 vals:List Vl
deriving DecidableEq
def aC:Ty aR:=tM (fun c=>(c.at_,c.vals)) (tP (au (tI .i64)) (au cv))
theorem R.cell{M:List Nat}{w:World}{c:aR}{cs:List Value}(h:R aC M w c cs):∃a1 n1 c1 a2 n2 c2,cs=[.slice a1 n1 c1,.slice a2 n2 c2]/\R (au (tI .i64)) M w c.at_ [.slice a1 n1 c1]/\R (au cv) M w c.vals [.slice a2 n2 c2]:=by
 obtain⟨x,y,rfl,h1,h2⟩:=h
 obtain⟨a1,c1,rfl⟩:=R.sl_form (M:=M) (w:=w) h1
 obtain⟨a2,c2,rfl⟩:=R.sl_form (M:=M) (w:=w) h2
 exact⟨_,_,_,_,_,_,rfl,h1,h2⟩
theorem R.mkCell{M:List Nat}{w:World}{c:aR}{a1 a2:Option Addr}{n1 c1 n2 c2:Nat}(h1:R (au (tI .i64)) M w c.at_ [.slice a1 n1 c1])(h2:R (au cv) M w c.vals [.slice a2 n2 c2]):R aC M w c [.slice a1 n1 c1,.slice a2 n2 c2] :=
 ⟨_,_,rfl,h1,h2⟩
structure zj where
 dims:List dI
 attrs:List cI
 cells:List aR
deriving DecidableEq
def uY:Ty zj:=tM (fun a=>(a.dims,(a.attrs,a.cells))) (tP (au bY) (tP (au bw) (au aC)))
theorem R.arr{M:List Nat}{w:World}{c:zj}{cs:List Value}(h:R uY M w c cs):∃a1 n1 c1 a2 n2 c2 a3 n3 c3,cs=[.slice a1 n1 c1,.slice a2 n2 c2,.slice a3 n3 c3]/\R (au bY) M w c.dims [.slice a1 n1 c1]/\R (au bw) M w c.attrs [.slice a2 n2 c2]/\R (au aC) M w c.cells [.slice a3 n3 c3]:=by
 obtain⟨x,y,rfl,h1,u,v,rfl,h2,h3⟩:=h
 obtain⟨a1,c1,rfl⟩:=R.sl_form (M:=M) (w:=w) h1
 obtain⟨a2,c2,rfl⟩:=R.sl_form (M:=M) (w:=w) h2
 obtain⟨a3,c3,rfl⟩:=R.sl_form (M:=M) (w:=w) h3
 exact⟨_,_,_,_,_,_,_,_,_,rfl,h1,h2,h3⟩
theorem R.mkArr{M:List Nat}{w:World}{c:zj}{a1 a2 a3:Option Addr}{n1 c1 n2 c2 n3 c3:Nat}(h1:R (au bY) M w c.dims [.slice a1 n1 c1])(h2:R (au bw) M w c.attrs [.slice a2 n2 c2])(h3:R (au aC) M w c.cells [.slice a3 n3 c3]):
 R uY M w c [.slice a1 n1 c1,.slice a2 n2 c2,.slice a3 n3 c3]:=⟨_,_,rfl,h1,_,_,rfl,h2,h3⟩
structure Nm where
 name:ByteArray
 arr:zj
deriving DecidableEq
def gG:Ty Nm:=tM (fun a=>(a.name,a.arr)) (tP tS uY)
theorem R.nm{M:List Nat}{w:World}{c:Nm}{cs:List Value}(h:R gG M w c cs):∃a1 n1 c1 a2 n2 c2 a3 n3 c3,cs=[.string c.name,.slice a1 n1 c1,.slice a2 n2 c2,.slice a3 n3 c3]/\c.name.size<=9223372036854775807/\R (au bY) M w c.arr.dims [.slice a1 n1 c1]/\R (au bw) M w c.arr.attrs [.slice a2 n2 c2]/\R (au aC) M w c.arr.cells [.slice a3 n3 c3]:=by
 obtain⟨x,y,rfl,⟨rfl,h0⟩,h⟩:=h
 obtain⟨a1,n1,c1,a2,n2,c2,a3,n3,c3,rfl,h1,h2,h3⟩:=R.arr (M:=M) (w:=w) h
 exact⟨_,_,_,_,_,_,_,_,_,rfl,h0,h1,h2,h3⟩
theorem R.mkNm{M:List Nat}{w:World}{c:Nm}{a1 a2 a3:Option Addr}{n1 c1 n2 c2 n3 c3:Nat}(h0:c.name.size<=9223372036854775807)(h1:R (au bY) M w c.arr.dims [.slice a1 n1 c1])(h2:R (au bw) M w c.arr.attrs [.slice a2 n2 c2])(h3:R (au aC) M w c.arr.cells [.slice a3 n3 c3]):
 R gG M w c [.string c.name,.slice a1 n1 c1,.slice a2 n2 c2,.slice a3 n3 c3]:=⟨[.string c.name],_,rfl,⟨rfl,h0⟩,R.mkArr (c:=c.arr) h1 h2 h3⟩
end Go.Vc
namespace Go.Vc
open Go Go.Proofs
theorem R.sl_get2{α:Type}{e:Ty α}{M:List Nat}{w:World}{xs:List α}{a:Option Addr}{n c:Nat}(h:R (au e) M w xs [.slice a n c]){i:Nat}(hi:i<xs.length):
 ∃ad cs,a=some ad/\R e M w xs[i] cs/\ao w (ad.add (i*e.sz)) cs/\ad.block∉M/\ad.block<w.heap.size/\∀(o:Nat) (m:List Value),(cs.drop o).take m.length=m->ao w ((ad.add (i*e.sz)).add o) m:=by
 obtain⟨ad,cs,h1,h2,h3,h4,h5⟩:=h.sl_get hi
 refine⟨ad,cs,h1,h2,h3,h4,h5,fun o m hm=>?_⟩
 obtain⟨a',c',he,_,_,h6⟩:=h
 simp only[List.cons.injEq,Value.slice.injEq,and_true]at he
 obtain⟨rfl,rfl,rfl⟩:=he
 obtain⟨b,off,arr,T,fz,rfl,_,_,_⟩:=h6 (by rintro rfl;simp at hi)
 simp only[Option.some.injEq]at h1
 subst h1
 refine h3.sub o m (fun j v hv=>?_) (by rw[al])
 rw[<-hm,List.getElem?_take]at hv
 split at hv
 ·rwa [List.getElem?_drop]at hv
 ·cases hv
theorem gU{b:Bool}(h:(!b)=true):b=false:=by cases b;rfl;cases h
theorem eP{b:Bool}(h:(!b)=false):b=true:=by cases b;cases h;rfl
def lU:List dI->List Int->Bool
 |[],[]=>true
 |d::ds,x::xs=>decide (d.lo<=x)&&(decide (x<=d.last)&&lU ds xs)
 |_,_=>false
theorem qx:∀{ds:List dI} {xs:List Int},lU ds xs=true->xs.length=ds.length
 |[],[],_=>rfl
 |d::ds,x::xs,h=>by
  simp only[lU,Bool.and_eq_true]at h
  simp[qx h.2.2]
 |[],_::_,h=>by simp[lU]at h
 |_::_,[],h=>by simp[lU]at h
theorem EM{M M':List Nat}{w:World}{ds:List dI}{xs:List Int}{a b:Option Addr}{n c m q:Nat}(hd:R (au bY) M w ds [.slice a n c])(hx:R (au (tI .i64)) M' w xs [.slice b m q]):
 Calls Zz 163 #[.slice a n c,.slice b m q] w (aA (.bool (lU ds xs)) w):=by
 obtain⟨rfl,hn1,hn2⟩:=hd.sl_len
 obtain⟨rfl,hm1,hm2⟩:=hx.sl_len
 have hmx:az=140737488355328:=rfl
 refine DL ⟨fun hne=>⟨?_,KpL.refl _ _⟩,fun he=>?_⟩
 ·cases h:lU ds xs
  ·rfl
  ·have:=qx h;omega
 have hl:xs.length=ds.length:=by have:=Classical.not_not.1 he;omega
 refine⟨fun vs w'=>∃i:Nat,vs=[iv (i:Int)]/\i<=xs.length/\KpL [] w w'/\lU (ds.drop i) (xs.drop i)=lU ds xs,fun vs _=>match vs with|[.int _ i]=>xs.length - i.toNat|_=>0,
  ⟨0,rfl,by omega,KpL.refl _ _,rfl⟩,?_⟩
 rintro n1 w1 ⟨i,hv,hi,hk,he1⟩
 obtain rfl:=v1 hv
 constructor
 ·intro hlt
  have h1:i<xs.length:=by omega
  have h2:i<ds.length:=by omega
  obtain⟨ad,cs,rfl,hv1,hld1,_,_⟩:=(hx.kp0 hk).sl_get h1
  obtain⟨rfl,hok1⟩:=hv1.intD
  obtain⟨ad2,cs2,rfl,hv2,hld2,_,_,hpt⟩:=(hd.kp0 hk).sl_get2 h2
  obtain⟨rfl,hok2⟩:=hv2.dim
  rw[List.drop_eq_getElem_cons h1,List.drop_eq_getElem_cons h2,lU]at he1
  refine⟨ad,rfl,by omega,hlt,_,hld1,ad2,rfl,by omega,by omega,_,hpt 1 [_] rfl,fun hlo=>?_,fun hlo=>⟨?_,hk⟩⟩
  ·refine⟨ad2,rfl,by omega,by omega,_,_,_,hld2,⟨(CH ds[i] w1).mono ?_⟩⟩
   rintro e w2 ⟨rfl,hk2⟩
   refine⟨_,rfl,hk2,fun hhi=>⟨?_,hk.trans hk2⟩,fun hhi=>⟨ae.2 (by omega),⟨i+1,by simp,by omega,hk.trans hk2,?_⟩,?_⟩⟩
   ·rw[<-he1,decide_eq_false (p:=xs[i]<=ds[i].last) (by omega)];simp
   ·rw[<-he1,decide_eq_true (p:=xs[i]<=ds[i].last) (by omega),decide_eq_true (p:=ds[i].lo<=xs[i]) (by omega)];simp
   ·show xs.length - ((i:Int)+1).toNat<xs.length - (i:Int).toNat
    omega
  ·rw[<-he1,decide_eq_false (p:=ds[i].lo<=xs[i]) (by omega)];simp
 ·intro hge
  have hi2:i=xs.length:=by omega
  rw[hi2,List.drop_length,List.drop_eq_nil_of_le (by omega)]at he1
  exact⟨by rw[<-he1];rfl,hk⟩
def cH:List cI->List Vl->Bool
 |_,[]=>true
 |a::ats,v::vs=>v.fits a.type&&cH ats vs
 |[],_::_=>false
def cT(ds:List dI)(ats:List cI)(c:aR):Int :=
 if c.at_.length≠ds.length∨c.vals.length≠ats.length then 13 else if lU ds c.at_=false then 3 else if cH ats c.vals=false then 12 else 0
theorem ww{M M' M2:List Nat}{w:World}{ds:List dI}{ats:List cI}{c:aR}{a b c1 c2:Option Addr}{n q m r n1 q1 n2 q2:Nat}(hd:R (au bY) M w ds [.slice a n q])(ha:R (au bw) M' w ats [.slice b m r])
 (hx:R (au (tI .i64)) M2 w c.at_ [.slice c1 n1 q1])(hy:R (au cv) M2 w c.vals [.slice c2 n2 q2]):
 Calls Zz 134 #[.slice a n q,.slice b m r,.agg #[.slice c1 n1 q1,.slice c2 n2 q2]] w (aA (iv (cT ds ats c)) w):=by
 obtain⟨rfl,_,_⟩:=hd.sl_len
 obtain⟨rfl,_,_⟩:=ha.sl_len
 obtain⟨rfl,_,_⟩:=hx.sl_len
 obtain⟨rfl,_,hm2⟩:=hy.sl_len
 have hmx:az=140737488355328:=rfl
 refine Cu fun _ _=>⟨fun he=>⟨fun hne w1 hk1=>⟨?_,hk1⟩,fun he2 w1 hk1=>⟨(EM (hd.kp0 hk1) (hx.kp0 hk1)).mono ?_⟩⟩,fun hne w1 hk1=>⟨?_,hk1⟩⟩
 ·unfold cT;rw[if_pos (.inr (by omega))]
 rotate_left
 ·unfold cT;rw[if_pos (.inl (by omega))]
 rintro e w2 ⟨rfl,hk2⟩
 have hk12:=hk1.trans hk2
 have hl:c.vals.length=ats.length:=by have:=Classical.not_not.1 he2;omega
 have e0:cT ds ats c=if lU ds c.at_=false then 3 else if cH ats c.vals=false then 12 else 0:=by unfold cT;rw[if_neg (by omega)]
 refine⟨_,rfl,hk2,fun hb=>⟨?_,hk12⟩,fun hb=>⟨fun vs w'=>∃i:Nat,vs=[iv (i:Int)]/\i<=c.vals.length/\KpL [] w w'/\cH (ats.drop i) (c.vals.drop i)=cH ats c.vals,
  fun vs _=>match vs with|[.int _ i]=>c.vals.length - i.toNat|_=>0,⟨0,rfl,by omega,hk12,rfl⟩,?_⟩⟩
 ·rw[e0,if_pos (by simpa using hb)]
 rw[if_neg (by simpa using hb)]at e0
 rintro n1 w3 ⟨i,hv,hi,hk,he1⟩
 obtain rfl:=v1 hv
 constructor
 ·intro hlt
  have h1:i<c.vals.length:=by omega
  have h2:i<ats.length:=by omega
  obtain⟨ad,cs,rfl,hv1,hld1,_,_⟩:=(hy.kp0 hk).sl_get h1
  obtain⟨rfl,hok1⟩:=hv1.val
  obtain⟨ad2,cs2,rfl,hv2,hld2,_,_,hpt⟩:=(ha.kp0 hk).sl_get2 h2
  obtain⟨rfl,hok2⟩:=hv2.attr
  rw[List.drop_eq_getElem_cons h1,List.drop_eq_getElem_cons h2,cH]at he1
  refine⟨ad,rfl,by omega,hlt,_,_,_,_,hld1,fun _ _=>⟨ad2,rfl,by omega,by omega,_,hpt 1 [_] rfl,fun w4 hk4=>⟨(wu c.vals[i] ats[i].type w4).mono ?_⟩⟩⟩
  rintro e w5 ⟨rfl,hk5⟩
  have hk45:=(hk.trans hk4).trans hk5
  refine⟨_,rfl,hk5,fun hf=>⟨?_,hk45⟩,fun hf=>⟨ae.2 (by omega),⟨i+1,by simp,by omega,hk45,?_⟩,?_⟩⟩
  ·rw[e0,<-he1,show c.vals[i].fits ats[i].type=false from by simpa using hf];rfl
  ·rw[<-he1,show c.vals[i].fits ats[i].type=true from by simpa using hf];simp
  ·show c.vals.length - ((i:Int)+1).toNat<c.vals.length - (i:Int).toNat
   omega
 ·intro hge
  have hi2:i=c.vals.length:=by omega
  rw[hi2,List.drop_length]at he1
  exact⟨by rw[e0,<-he1];simp[cH],hk⟩
theorem yk{M M2:List Nat}{w:World}{c:aR}{c1 c2:Option Addr}{n1 q1 n2 q2:Nat}(hM:∀b∈M,b<w.heap.size)
 (hx:R (au (tI .i64)) M2 w c.at_ [.slice c1 n1 q1])(hy:R (au cv) M2 w c.vals [.slice c2 n2 q2])(h1:c.at_.length<=1099511627776)(h2:c.vals.length<=1099511627776):
 Calls Zz 166 #[.agg #[.slice c1 n1 q1,.slice c2 n2 q2]] w fun e w'=>∃a1 n1 k1 a2 n2 k2,e=.returned (.agg #[.slice a1 n1 k1,.slice a2 n2 k2])/\KpL [] w w'/\R aC M w' c [.slice a1 n1 k1,.slice a2 n2 k2]:=by
 obtain⟨rfl,_,_⟩:=hx.sl_len
 obtain⟨rfl,_,hm2⟩:=hy.sl_len
 have hmx:az=140737488355328:=rfl
 refine xd fun k1 hk1 k2 hk2 w1 hw1 hkn=>?_
 have hMk:∀b∈k2::M,b<w1.heap.size:=by
  intro b hb
  rcases List.mem_cons.1 hb with rfl|hb
  ·exact ab hkn.1
  ·exact Nat.lt_of_lt_of_le (hM b hb) hw1.size
 refine⟨(nr (M:=k2::M) hMk (by omega) (hx.kp0 hw1)).mono ?_⟩
 rintro e w2 ⟨a1,n1,q1,rfl,hC1⟩
 refine⟨_,_,_,rfl,hC1.kpn,fun _=>?_⟩
 have hw2:=hw1.trans hC1.kpn
 refine⟨(ie (M:=k2::M) (fun b hb=>Nat.lt_of_lt_of_le (hMk b hb) hC1.kpn.size) (by omega) (hy.kp0 hw2)).mono ?_⟩
 rintro e w3 ⟨a2,n2,q2,rfl,hC2⟩
 refine⟨_,_,_,rfl,hC2.kpn,fun w4 hw4 _=>⟨_,_,_,_,_,_,rfl,?_,?_⟩⟩
 ·exact(hw2.trans hC2.kpn).more hw4 (by intro x hx;simp at hx;subst hx;exact .inr hk2)
 ·have e1:=hC1.acc.len
  have e2:=hC2.acc.len
  have g1:=((hC1.acc.kp0 hC2.kpn).done (by omega)).kp hw4 (by simp)
  have g2:=(hC2.acc.done (by omega)).kp hw4 (by simp)
  exact R.mkCell (g1.weak fun b hb=>by simp[hb]) (g2.weak fun b hb=>by simp[hb])
theorem wP{w:World}{c1 c2:Option Addr}{n q1 q2:Nat}(h1:0<n)(h4:n<=4):Calls Zz 154 #[.agg #[.slice c1 n q1,.slice c2 n q2]] w (aA (.bool true) w):=by
 refine yD fun _ _=>⟨fun _=>⟨fun _ w1 hk1=>⟨by rw[decide_eq_true (by omega)],hk1⟩,fun hn=>by omega⟩,fun hn=>absurd rfl hn⟩
theorem Dc(x y:Int)(w:World):Calls Zz 155 #[iv x,iv y] w (aA (.bool (decide (x<=y) || decide (1073741825<=y))) w):=by
 refine Cw ⟨fun h=>⟨?_,KpL.refl _ _⟩,fun h=>⟨?_,KpL.refl _ _⟩⟩
 ·rw[decide_eq_false (p:=x<=y) h];rfl
 ·rw[decide_eq_true (p:=x<=y) h];rfl
def uI:List Int->List Int->List Int->Bool
 |[],[],[]=>true
 |l::ls,h::hs,x::xs=>decide (l<=x)&&((decide (x<=h) || decide (1073741825<=h))&&uI ls hs xs)
 |_,_,_=>false
theorem zQ{M M' M2:List Nat}{w:World}{lo hi xs:List Int}{a b c:Option Addr}{n q m r k t:Nat}(hl:R (au (tI .i64)) M w lo [.slice a n q])(hh:R (au (tI .i64)) M' w hi [.slice b m r])(hx:R (au (tI .i64)) M2 w xs [.slice c k t])
 (h1:lo.length=hi.length)(h2:0<lo.length)(h3:lo.length<=4)(h4:xs.length=lo.length):Calls Zz 105 #[.agg #[.slice a n q,.slice b m r],.slice c k t] w (aA (.bool (uI lo hi xs)) w):=by
 obtain⟨rfl,_,_⟩:=hl.sl_len
 obtain⟨rfl,_,_⟩:=hh.sl_len
 obtain⟨rfl,_,hm2⟩:=hx.sl_len
 have hmx:az=140737488355328:=rfl
 refine DS fun _ _ w1 hk1=>⟨(by rw[<-h1];exact wP h2 h3:Calls Zz 154 #[.agg #[.slice a lo.length q,.slice b hi.length r]] w1 (aA (.bool true) w1)).mono ?_⟩
 rintro e w2 ⟨rfl,hk2⟩
 refine⟨_,rfl,hk2,fun _=>⟨fun hc=>by omega,fun _=>⟨fun vs w'=>∃i:Nat,vs=[iv (i:Int)]/\i<=xs.length/\KpL [] w w'/\uI (lo.drop i) (hi.drop i) (xs.drop i)=uI lo hi xs,
  fun vs _=>match vs with|[.int _ i]=>xs.length - i.toNat|_=>0,⟨0,rfl,by omega,hk1.trans hk2,rfl⟩,?_⟩⟩,fun hc=>by simp at hc⟩
 rintro n1 w3 ⟨i,hv,hi',hk,he1⟩
 obtain rfl:=v1 hv
 constructor
 ·intro hlt
  have g1:i<xs.length:=by omega
  have g2:i<lo.length:=by omega
  have g3:i<hi.length:=by omega
  obtain⟨ad,cs,rfl,hv1,hld1,_,_⟩:=(hx.kp0 hk).sl_get g1
  obtain⟨rfl,hok1⟩:=hv1.intD
  obtain⟨ad2,cs2,rfl,hv2,hld2,_,_⟩:=(hl.kp0 hk).sl_get g2
  obtain⟨rfl,hok2⟩:=hv2.intD
  obtain⟨ad3,cs3,rfl,hv3,hld3,_,_⟩:=(hh.kp0 hk).sl_get g3
  obtain⟨rfl,hok3⟩:=hv3.intD
  rw[List.drop_eq_getElem_cons g1,List.drop_eq_getElem_cons g2,List.drop_eq_getElem_cons g3,uI]at he1
  refine⟨ad,rfl,by omega,hlt,_,hld1,ad2,rfl,by omega,by omega,_,hld2,fun hlo=>⟨ad3,rfl,by omega,by omega,_,hld3,⟨(Dc _ _ w3).mono ?_⟩⟩,fun hlo=>⟨?_,hk⟩⟩
  ·rintro e w4 ⟨rfl,hk4⟩
   refine⟨_,rfl,hk4,fun hb=>⟨?_,hk.trans hk4⟩,fun hb=>⟨ae.2 (by omega),⟨i+1,by simp,by omega,hk.trans hk4,?_⟩,?_⟩⟩
   ·rw[<-he1,show(decide (xs[i]<=hi[i]) || decide (1073741825<=hi[i]))=false from gU hb];simp
   ·rw[<-he1,show(decide (xs[i]<=hi[i]) || decide (1073741825<=hi[i]))=true from eP hb,decide_eq_true (p:=lo[i]<=xs[i]) (by omega)];simp
   ·show xs.length - ((i:Int)+1).toNat<xs.length - (i:Int).toNat
    omega
  ·rw[<-he1,decide_eq_false (p:=lo[i]<=xs[i]) (by omega)];simp
 ·intro hge
  have hi2:i=xs.length:=by omega
  rw[hi2,List.drop_length,List.drop_eq_nil_of_le (by omega),List.drop_eq_nil_of_le (by omega)]at he1
  exact⟨by rw[<-he1];rfl,hk⟩
end Go.Vc
namespace Go.Vc
open Go
variable {κ β:Type} {P:Program}
def fL:List Value->Value
 |[v]=>v
 |cs=>.agg cs.toArray
structure zX [DecidableEq κ] (P:Program) (kt:TypeId) (enc:κ->Value):Prop where
 inj:∀a b,enc a=enc b->a=b
 chk:∀b w k,(Instr.checkKey b 10000 kt (enc k)).run P w=.ok () w
 same:∀k,Instr.sameBits 10000 (enc k) (enc k)=true
 find:∀w k (es:List MapEntry) (ks:List κ),es.map (·.key)=ks.map enc->(Instr.findKey kt (enc k) es).run P w=.ok ((ks.idxOf? k).bind fun i=>(es[i]?).map fun e=>(i,e.val)) w
structure fG (enc:κ->Value) (t:Ty β) (M:List Nat) (w:World) (m:Nat) (l:List (κ×β)) (arr:Array MapEntry) (clock:Nat):Prop where
 blk:w.heap[m]?=some (.map arr clock)
 keys:arr.toList.map (·.key)=l.map fun p=>enc p.1
 vals:∀(i:Nat) (e:MapEntry) (p:κ×β),arr[i]?=some e->l[i]?=some p->∃cs,R t (m::M) w p.2 cs/\e.val=fL cs
 born:(arr.toList.map (·.born)).Nodup
 old:∀e∈arr.toList,e.born<clock
 nd:(l.map (·.1)).Nodup
 mM:m∉M
def cZ(enc:κ->Value)(t:Ty β)(M:List Nat)(w:World)(m:Nat)(l:List (κ×β)):Prop:=∃arr clock,fG enc t M w m l arr clock
theorem cZ.lt{enc:κ->Value}{t:Ty β}{M:List Nat}{w:World}{m:Nat}{l:List (κ×β)}(h:cZ enc t M w m l):m<w.heap.size:=by
 obtain⟨arr,clock,h⟩:=h
 exact ab h.blk
theorem cZ.mM{enc:κ->Value}{t:Ty β}{M:List Nat}{w:World}{m:Nat}{l:List (κ×β)}(h:cZ enc t M w m l):m∉M:=by
 obtain⟨arr,clock,h⟩:=h
 exact h.mM
theorem cZ.nd{enc:κ->Value}{t:Ty β}{M:List Nat}{w:World}{m:Nat}{l:List (κ×β)}(h:cZ enc t M w m l):(l.map (·.1)).Nodup:=by
 obtain⟨arr,clock,h⟩:=h
 exact h.nd
theorem cZ.step{enc:κ->Value}{t:Ty β}{M M' N:List Nat}{w w':World}{m:Nat}{l:List (κ×β)}(h:cZ enc t M w m l)(kp:KpL N w w')(hs:∀b∈N,b∈M)(hn:∀b∈M',b∈M∨w.heap.size<=b):cZ enc t M' w' m l:=by
 obtain⟨arr,clock,h⟩:=h
 have hlt:=ab h.blk
 refine⟨arr,clock,(kp.blk m hlt fun hm=>h.mM (hs m hm)).trans h.blk,h.keys,fun i e p he hp=>?_,h.born,h.old,h.nd,fun hm=>(hn m hm).elim h.mM (fun hge=>by omega)⟩
 obtain⟨cs,h1,h2⟩:=h.vals i e p he hp
 refine⟨cs,t.mono h1 fun b hb=>⟨⟨Nat.lt_of_lt_of_le hb.1 kp.size,fun hm=>?_⟩,kp.blk b hb.1 fun hm=>hb.2 (List.mem_cons_of_mem _ (hs b hm))⟩,h2⟩
 rcases List.mem_cons.1 hm with rfl|hm
 ·exact hb.2 (by simp)
 ·rcases hn b hm with hm|hm
  ·exact hb.2 (List.mem_cons_of_mem _ hm)
  ·have:=hb.1;omega
theorem cZ.kp0{enc:κ->Value}{t:Ty β}{M:List Nat}{w w':World}{m:Nat}{l:List (κ×β)}(h:cZ enc t M w m l)(kp:KpL [] w w'):cZ enc t M w' m l:=h.step kp (by simp) fun _ hb=>.inl hb
def bQ [DecidableEq κ](l:List (κ×β))(k:κ):Option β:=(l.find? fun p=>decide (p.1=k)).map (·.2)
def dX [DecidableEq κ](l:List (κ×β))(k:κ)(v:β):List (κ×β):=if (l.any fun p=>decide (p.1=k))=true then l.map fun p=>if p.1=k then (k,v) else p else l++[(k,v)]
theorem lI [DecidableEq κ]:∀(l:List (κ×β)) (k:κ),((l.map (·.1)).idxOf? k).bind (fun i=>l[i]?)=l.find? fun p=>decide (p.1=k)
 |[],k=>by simp
 |p::r,k=>by
  rw[List.map_cons,List.idxOf?_cons,List.find?_cons]
  by_cases h:p.1=k
  ·simp[h]
  ·have:=lI r k
   simp only[h,beq_iff_eq,if_false,decide_false]
   rw[<-this]
   cases (r.map (·.1)).idxOf? k<;>simp
section
variable [DecidableEq κ] {kt vt mt:TypeId} {enc:κ->Value} {t:Ty β} {M:List Nat} {w:World} {m:Nat} {l:List (κ×β)}
theorem fG.found{arr:Array MapEntry}{clock:Nat}(hK:zX P kt enc)(h:fG enc t M w m l arr clock)(k:κ):
 (Instr.findKey kt (enc k) arr.toList).run P w=.ok (((l.map (·.1)).idxOf? k).bind fun i=>(arr[i]?).map fun e=>(i,e.val)) w:=by
 rw[hK.find w k arr.toList (l.map (·.1)) (by rw[h.keys,List.map_map];rfl)]
 simp
theorem fG.len{arr:Array MapEntry}{clock:Nat}(h:fG enc t M w m l arr clock):arr.size=l.length:=by
 have:=congrArg List.length h.keys
 simpa using this
theorem jp(hK:zX P kt enc)(hu:P.underlying mt=some (.map kt vt)){z:Value}(hz:∀w,(zeroValue vt).run P w=.ok z w)(h:cZ enc t M w m l)(k:κ)(ok:Bool){Q:Value->World->Prop}
 (h1:∀x cs,bQ l k=some x->R t (m::M) w x cs->Q (if ok then .tuple #[fL cs,.bool true] else fL cs) w)(h2:bQ l k=none->Q (if ok then .tuple #[z,.bool false] else z) w):
 Ev P (Instr.lookup mt (.map (some m)) (enc k) ok) w Q:=by
 obtain⟨arr,clock,h⟩:=h
 have hf:=h.found hK k
 cases hi:(l.map (·.1)).idxOf? k with
 |none =>
  have hg:bQ l k=none:=by
   unfold bQ
   rw[<-lI,hi]
   rfl
  rw[hi,Option.bind_none]at hf
  refine⟨_,w,?_,h2 hg⟩
  simp only[Instr.lookup,Sem.run_bind,ai hu,Result.andThen_ok,getObj,Sem.run,h.blk,Sem.run_pure,hK.chk,hf,hz]
 |some i =>
  have hlt:i<l.length:=by
   obtain⟨h1,_⟩:=List.idxOf?_eq_some_iff.1 hi
   simpa using h1
  have hla:i<arr.size:=by rw[h.len];exact hlt
  have ha:arr[i]?=some arr[i]:=Array.getElem?_eq_getElem hla
  have hp:l[i]?=some l[i]:=List.getElem?_eq_getElem hlt
  obtain⟨cs,hR,hv⟩:=h.vals i _ _ ha hp
  have hg:bQ l k=some l[i].2:=by
   unfold bQ
   rw[<-lI,hi,Option.bind_some,hp]
   rfl
  rw[hi,Option.bind_some,ha,Option.map_some]at hf
  refine⟨_,w,?_,h1 _ cs hg hR⟩
  simp only[Instr.lookup,Sem.run_bind,ai hu,Result.andThen_ok,getObj,Sem.run,h.blk,Sem.run_pure,hK.chk,hf,hv]
theorem dv(hK:zX P kt enc)(hu:P.underlying mt=some (.map kt vt))(h:cZ enc t M w m l)(k:κ){v:β}{cs:List Value}(hv:R t (m::M) w v cs){Q:Value->World->Prop}
 (hq:∀w',cZ enc t M w' m (dX l k v)->KpL [m] w w'->Q undef w'):Ev P (do Instr.mapUpdate mt (.map (some m)) (enc k) (fL cs);pure undef) w Q:=by
 obtain⟨arr,clock,h⟩:=h
 have hf:=h.found hK k
 have hm:=ab h.blk
 have hset:∀o,KpL [m] w { w with heap:=w.heap.setIfInBounds m o }:=fun o=>⟨rfl,rfl,rfl,Nat.le_refl _,by simp,fun b hb hn=>by
  simp only[List.mem_singleton]at hn
  simp[Array.getElem?_setIfInBounds,Ne.symm hn]⟩
 have hkeep:∀o {x:β} {cs:List Value},R t (m::M) w x cs->R t (m::M) { w with heap:=w.heap.setIfInBounds m o } x cs:=fun o _ _ hR=>hR.kp (hset o) (by simp)
 cases hi:(l.map (·.1)).idxOf? k with
 |none =>
  have hni:k∉l.map (·.1):=List.idxOf?_eq_none_iff.1 hi
  have hany:(l.any fun p=>decide (p.1=k))=false:=by
   rw[List.any_eq_false]
   intro p hp hc
   simp at hc
   exact hni (by rw[<-hc];exact List.mem_map_of_mem hp)
  rw[hi,Option.bind_none]at hf
  refine⟨_,{ w with heap:=w.heap.setIfInBounds m (.map (arr.push { key:=enc k,val:=fL cs,born:=clock }) (clock+1)) },?_,hq _ ⟨arr.push { key:=enc k,val:=fL cs,born:=clock },clock+1,?_,?_,?_,?_,?_,?_,h.mM⟩ (hset _)⟩
  ·simp only[Instr.mapUpdate,Sem.run_bind,ai hu,Result.andThen_ok,getObj,setObj,Sem.run,h.blk,Sem.run_pure,hK.chk,hf]
  ·simp[hm]
  ·unfold dX
   rw[if_neg (by simp[hany])]
   simp[h.keys]
  ·intro i e p he hp
   unfold dX at hp
   rw[if_neg (by simp[hany])]at hp
   by_cases hil:i<arr.size
   ·rw[Array.getElem?_push_lt hil,<-Array.getElem?_eq_getElem hil]at he
    rw[List.getElem?_append_left (by rw[<-h.len];exact hil)]at hp
    obtain⟨cs',h3,h4⟩:=h.vals i e p he hp
    exact⟨cs',hkeep _ h3,h4⟩
   ·have hile:i=arr.size:=by
     have:=(Array.getElem?_eq_some_iff.1 he).1
     simp at this
     omega
    subst hile
    simp at he
    rw[h.len]at hp
    simp at hp
    subst he hp
    exact⟨cs,hkeep _ hv,rfl⟩
  ·simp only[Array.toList_push,List.map_append,List.map_cons,List.map_nil]
   rw[List.nodup_append]
   refine⟨h.born,by simp,fun a ha b hb=>?_⟩
   simp at hb
   subst hb
   simp only[List.mem_map]at ha
   obtain⟨e,he,rfl⟩:=ha
   have:=h.old e he
   omega
  ·intro e he
   simp only[Array.toList_push,List.mem_append,List.mem_singleton]at he
   rcases he with he|rfl
   ·have:=h.old e he;omega
   ·exact Nat.lt_succ_self _
  ·unfold dX
   rw[if_neg (by simp[hany])]
   simp only[List.map_append,List.map_cons,List.map_nil]
   rw[List.nodup_append]
   refine⟨h.nd,by simp,fun a ha b hb=>?_⟩
   simp at hb
   subst hb
   rintro rfl
   exact hni ha
 |some i =>
  have hlt:i<l.length:=by
   obtain⟨h1,_⟩:=List.idxOf?_eq_some_iff.1 hi
   simpa using h1
  have hki:l[i].1=k:=by
   obtain⟨_,h2,_⟩:=List.idxOf?_eq_some_iff.1 hi
   simpa using h2
  have hla:i<arr.size:=by rw[h.len];exact hlt
  have ha:arr[i]?=some arr[i]:=Array.getElem?_eq_getElem hla
  have hkey:arr[i].key=enc k:=by
   have:=congrArg (fun x=>x[i]?) h.keys
   simp[hla,hlt,hki]at this
   exact this
  have hany:(l.any fun p=>decide (p.1=k))=true:=by
   rw[List.any_eq_true]
   exact⟨l[i],List.getElem_mem hlt,by simp[hki]⟩
  have hput:dX l k v=l.map fun p=>if p.1=k then (k,v) else p:=by unfold dX;rw[if_pos hany]
  have hother:∀j,j<l.length->j≠i->∀hj:j<l.length,l[j].1≠k:=by
   intro j _ hne hj he
   apply hne
   have hp:=List.pairwise_iff_getElem.1 h.nd
   rcases Nat.lt_trichotomy j i with hlt'|heq|hgt
   ·have:=hp j i (by simpa using hj) (by simpa using hlt) hlt'
    rw[List.getElem_map,List.getElem_map,he,hki]at this
    exact absurd rfl this
   ·exact heq
   ·have:=hp i j (by simpa using hlt) (by simpa using hj) hgt
    rw[List.getElem_map,List.getElem_map,he,hki]at this
    exact absurd rfl this
  rw[hi,Option.bind_some,ha,Option.map_some]at hf
  refine⟨_,{ w with heap:=w.heap.setIfInBounds m (.map (arr.modify i fun e=>{ e with key:=enc k,val:=fL cs }) clock) },?_,hq _ ⟨arr.modify i fun e=>{ e with key:=enc k,val:=fL cs },clock,?_,?_,?_,?_,?_,?_,h.mM⟩ (hset _)⟩
  ·simp only[Instr.mapUpdate,Sem.run_bind,ai hu,Result.andThen_ok,getObj,setObj,Sem.run,h.blk,Sem.run_pure,hK.chk,hf,ha,Option.map_some,Option.getD_some,hkey,Instr.keyThatStays,hK.same,if_true]
  ·simp[hm]
  ·rw[hput,List.map_map]
   apply List.ext_getElem?
   intro j
   have hkj:=congrArg (fun x=>x[j]?) h.keys
   simp only[List.getElem?_map,Array.getElem?_toList,Array.getElem?_modify]at hkj ⊢
   by_cases hji:i=j
   ·subst hji
    simp[ha,hlt,hki]
   ·rw[if_neg hji]
    rw[hkj]
    by_cases hj:j<l.length
    ·simp[hj,hother j hj (Ne.symm hji) hj]
    ·simp[hj]
  ·intro j e p he hp
   rw[hput]at hp
   rw[Array.getElem?_modify]at he
   by_cases hji:i=j
   ·subst hji
    simp[ha]at he
    simp[hlt,hki]at hp
    subst he hp
    exact⟨cs,hkeep _ hv,rfl⟩
   ·rw[if_neg hji]at he
    obtain⟨hj,hpe⟩:=List.getElem?_eq_some_iff.1 hp
    simp only[List.length_map]at hj
    simp[hother j hj (Ne.symm hji) hj]at hpe
    obtain⟨cs',h3,h4⟩:=h.vals j e p he (by rw[<-hpe];simp[hj])
    exact⟨cs',hkeep _ h3,h4⟩
  ·have:(arr.modify i fun e=>{ e with key:=enc k,val:=fL cs }).toList.map (·.born)=arr.toList.map (·.born):=by
    apply List.ext_getElem?
    intro j
    simp only[List.getElem?_map,Array.getElem?_toList,Array.getElem?_modify]
    split
    ·cases arr[j]?<;>rfl
    ·rfl
   rw[this]
   exact h.born
  ·intro e he
   obtain⟨j,hj,rfl⟩:=List.getElem_of_mem he
   simp only[Array.length_toList,Array.size_modify]at hj
   simp only[Array.getElem_toList,Array.getElem_modify]
   have:=h.old arr[j] (by simp)
   split<;>exact this
  ·have:(dX l k v).map (·.1)=l.map (·.1):=by
    rw[hput,List.map_map]
    apply List.map_congr_left
    intro p _
    by_cases hp:p.1=k<;>simp[hp]
   rw[this]
   exact h.nd
theorem eC{M:List Nat}{w:World}(hM:∀b∈M,b<w.heap.size){mt:TypeId}{Q:Value->World->Prop}
 (hq:∀w',cZ enc t M w' w.heap.size []->KpL [] w w'->Q (.map (some w.heap.size)) w'):Ev P (Instr.makeMap mt none) w Q:=by
 refine⟨_,w.alloc (.map #[] 0),rfl,hq _ ⟨#[],0,?_,rfl,fun i e p he=>by simp at he,by simp,by simp,by simp,fun hm=>by have:=hM _ hm;omega⟩ ((KpL.refl _ _).alloc _)⟩
 show(w.heap.push _)[w.heap.size]?=_
 simp
end
end Go.Vc
namespace Go.Vc
open Go Go.Proofs
theorem idxOf?_cons'{κ:Type}[DecidableEq κ](a k:κ)(r:List κ):(a::r).idxOf? k=if a=k then some 0 else (r.idxOf? k).map (· + 1):=by
 rw[List.idxOf?_cons]
 by_cases h:a=k<;>simp[h]
theorem kT{κ:Type}[DecidableEq κ]{enc:κ->Value}{d:TypeDesc}(hs:∀a b,Instr.sameNow d (enc a) (enc b)=some (decide (a=b)))(k:κ):∀(es:List MapEntry) (ks:List κ) (i:Nat),es.map (·.key)=ks.map enc->
 Instr.findNow d (enc k) es i=some ((ks.idxOf? k).bind fun j=>(es[j]?).map fun e=>(i+j,e.val))
 |[],[],i,_=>by simp[Instr.findNow]
 |[],_::_,i,h=>by simp at h
 |_::_,[],i,h=>by simp at h
 |e::es,a::ks,i,h=>by
  simp only[List.map_cons,List.cons.injEq]at h
  rw[Instr.findNow,h.1,hs,idxOf?_cons']
  by_cases hk:a=k
  ·subst hk
   simp
  ·have hk':¬k=a:=fun e=>hk e.symm
   simp only[hk,hk',decide_false,if_false]
   rw[kT hs k es ks (i+1) h.2]
   congr 1
   cases ks.idxOf? k with
   |none=>rfl
   |some j =>
    simp only[Option.map_some,Option.bind_some,List.getElem?_cons_succ]
    cases es[j]? with
    |none=>rfl
    |some e=>simp only[Option.map_some];congr 2;omega
theorem wL{κ:Type}[DecidableEq κ]{P:Program}{enc:κ->Value}{kt:TypeId}(hs:∀a b w,(Op.equal kt (enc a) (enc b)).run P w=.ok (decide (a=b)) w)(k:κ)(w:World):∀(es:List MapEntry) (ks:List κ) (i:Nat),es.map (·.key)=ks.map enc->
 (Instr.findAsking kt (enc k) es i).run P w=.ok ((ks.idxOf? k).bind fun j=>(es[j]?).map fun e=>(i+j,e.val)) w
 |[],[],i,_=>by simp[Instr.findAsking]
 |[],_::_,i,h=>by simp at h
 |_::_,[],i,h=>by simp at h
 |e::es,a::ks,i,h=>by
  simp only[List.map_cons,List.cons.injEq]at h
  simp only[Instr.findAsking,Sem.run_bind,h.1,hs,Result.andThen_ok,idxOf?_cons']
  by_cases hk:a=k
  ·subst hk
   simp
  ·have hk':¬k=a:=fun e=>hk e.symm
   simp only[hk,hk',decide_false,Bool.false_eq_true,if_false]
   rw[wL hs k w es ks (i+1) h.2]
   congr 1
   cases ks.idxOf? k with
   |none=>rfl
   |some j =>
    simp only[Option.map_some,Option.bind_some,List.getElem?_cons_succ]
    cases es[j]? with
    |none=>rfl
    |some e=>simp only[Option.map_some];congr 2;omega
theorem Bv:zX Zz 9 Value.string:=by
 refine⟨fun a b h=>by injection h,fun b w k=>?_,fun k=>?_,fun w k es ks h=>?_⟩
 ·rw[Instr.checkKey]
  simp only[Sem.run_bind,ai u9,Result.andThen_ok]
  rfl
 ·simp only[Instr.sameBits]
  exact(Dp k k).2 rfl
 ·have hs:∀a b:ByteArray,Instr.sameNow .string (Value.string a) (Value.string b)=some (decide (a=b)):=by
   intro a b
   simp only[Instr.sameNow]
   congr 1
   rw[Bool.eq_iff_iff,Dp,decide_eq_true_eq]
  simp only[Instr.findKey,Sem.run_bind,ai u9,Result.andThen_ok,kT hs k es ks 0 h]
  simp
structure Pl where
 a:Int
 p0:Int
 p1:Int
 p2:Int
 p3:Int
deriving DecidableEq
def Pl.cells(p:Pl):List Value:=[iv p.a,iv p.p0,iv p.p1,iv p.p2,iv p.p3]
def Pl.enc(p:Pl):Value:=.agg p.cells.toArray
theorem ry:Tryz.prog.underlying 141=some (.array 4 3):=by kernel_rfl
theorem s3(w:World):(sizeOf 3).run Zz w=.ok 1 w:=by
 obtain⟨i,hi,he⟩:=Option.map_eq_some_iff.1 (show(Tryz.prog.info? 3).map (·.size)=some 1 by kernel_rfl)
 simp[sizeOf,aW hi,he]
theorem Fh(w:World):(sizeOf 141).run Zz w=.ok 4 w:=by
 obtain⟨i,hi,he⟩:=Option.map_eq_some_iff.1 (show(Tryz.prog.info? 141).map (·.size)=some 4 by kernel_rfl)
 simp[sizeOf,aW hi,he]
theorem E3(cs:Array Value)(o:Nat)(w:World):(part 141 cs o).run Zz w=.ok (.agg (cs.extract o (o+4))) w:=by
 have h1:(isAgg 141).run Zz w=.ok true w:=by
  simp only[isAgg,Sem.run_bind,ai ry,Result.andThen_ok]
  rfl
 simp[part,h1,Fh]
theorem EL(p q:Pl)(w:World):(Op.equal 143 p.enc q.enc).run Zz w=.ok (decide (p=q)) w:=by
 have hs:Tryz.prog.stoodInHeld 143=false:=by kernel_rfl
 obtain⟨a,b,c,d,e⟩:=p
 obtain⟨a',b',c',d',e'⟩:=q
 have h141:∀n,(Op.equalIn (n+2) 141 (.agg #[iv b,iv c,iv d,iv e]) (.agg #[iv b',iv c',iv d',iv e'])).run Zz w=.ok (decide (b=b'/\c=c'/\d=d'/\e=e')) w:=by
  intro n
  rw[Op.equalIn]
  simp only[Sem.run_bind,ai ry,Result.andThen_ok,s3]
  simp[p3,fr u3,Std.Legacy.Range.forIn_eq_forIn_range',List.range'_succ]
  by_cases h1:b=b'<;>by_cases h2:c=c'<;>by_cases h3:d=d'<;>by_cases h4:e=e'<;>simp[h1,h2,h3,h4]
 unfold Op.equal Op.maxDepth Pl.enc Pl.cells
 rw[Op.equalIn]
 simp only[Sem.run_bind,ai DJ,Result.andThen_ok,run_program,hs,Bool.false_eq_true,if_false]
 simp[p3,E3,fr u3,h141]
 by_cases h0:a=a'<;>by_cases h1:b=b'<;>by_cases h2:c=c'<;>by_cases h3:d=d'<;>by_cases h4:e=e'<;>simp[h0,h1,h2,h3,h4]
theorem mH:zX Zz 143 Pl.enc:=by
 refine⟨fun a b h=>?_,fun b w k=>?_,fun k=>?_,fun w k es ks h=>?_⟩
 ·obtain⟨a0,a1,a2,a3,a4⟩:=a
  obtain⟨b0,b1,b2,b3,b4⟩:=b
  simp[Pl.enc,Pl.cells]at h
  simp[h]
 ·have c3:∀n x w,(Instr.checkKey b (n+1) 3 (iv x)).run Zz w=.ok () w:=by
   intro n x w
   rw[Instr.checkKey]
   simp only[Sem.run_bind,ai u3,Result.andThen_ok]
   rfl
  have c141:∀n (cs:Array Value) w,(∀i:Nat,i<4->∃x,cs[i]?=some (iv x))->(Instr.checkKey b (n+2) 141 (.agg cs)).run Zz w=.ok () w:=by
   intro n cs w hcs
   obtain⟨x0,h0⟩:=hcs 0 (by omega)
   obtain⟨x1,h1⟩:=hcs 1 (by omega)
   obtain⟨x2,h2⟩:=hcs 2 (by omega)
   obtain⟨x3,h3⟩:=hcs 3 (by omega)
   rw[Instr.checkKey]
   simp only[Sem.run_bind,ai ry,Result.andThen_ok]
   simp[Std.Legacy.Range.forIn_eq_forIn_range',List.range'_succ,s3,p3,h0,h1,h2,h3,c3]
  rw[Instr.checkKey]
  unfold Pl.enc Pl.cells
  simp only[Sem.run_bind,ai DJ,Result.andThen_ok]
  simp[p3,E3,c3]
  have:=c141 9997 #[iv k.p0,iv k.p1,iv k.p2,iv k.p3] w fun i hi=>by
   match i,hi with
   |0,_=>exact⟨_,rfl⟩
   |1,_=>exact⟨_,rfl⟩
   |2,_=>exact⟨_,rfl⟩
   |3,_=>exact⟨_,rfl⟩
  simp[this]
 ·simp[Pl.enc,Pl.cells,Instr.sameBits]
 ·have hn:Instr.findNow (.struct #[⟨"array",3,0,false, "", "tesseract/ingest",0⟩,⟨"at",141,1,false, "", "tesseract/ingest",8⟩]) k.enc es 0=if es=[] then some none else none:=by
   cases es with
   |nil=>rfl
   |cons e es=>rfl
  simp only[Instr.findKey,Sem.run_bind,ai DJ,Result.andThen_ok,hn]
  by_cases he:es=[]
  ·subst he
   have:ks=[]:=by cases ks with|nil=>rfl|cons=>simp at h
   subst this
   simp
  ·simp only[he,if_false]
   rw[wL EL k w es ks 0 h]
   simp
end Go.Vc
namespace Go.Vc
open Go
variable {κ β:Type} {P:Program}
structure ou (w:World) (r m:Nat) (arr:Array MapEntry) (clock:Nat) (vis:List Nat):Prop where
 it:w.heap[r]?=some (.mapIter (some m) clock (vis.map fun i=>(arr.getD i default).born).toArray clock)
 lt:∀i∈vis,i<arr.size
 nd:vis.Nodup
theorem ou.keep{w w':World}{r m:Nat}{arr:Array MapEntry}{clock:Nat}{vis:List Nat}{F:List Nat}(h:ou w r m arr clock vis)(k:KpL F w w')(hr:r∉F):ou w' r m arr clock vis :=
 ⟨(k.blk r (ab h.it) hr).trans h.it,h.lt,h.nd⟩
theorem mP{w:World}{n:Nat}(hn:0<n):∃(j:Nat) (w1:World),j<n/\w1.heap=w.heap/\KpL [] w w1/\(choose (Question.mapNext n)).run P w=.ok j w1:=by
 by_cases hf:(Question.mapNext n).forced=true
 ·exact⟨0,w,hn,rfl,KpL.refl _ _,by rw[run_choose,if_pos hf]⟩
 ·refine⟨_,w.drew,?_,rfl,(KpL.refl _ _).drew,by rw[run_choose,if_neg hf];rfl⟩
  simp only[Question.cut]
  exact Nat.mod_lt _ hn
section
variable [DecidableEq κ] {enc:κ->Value} {t:Ty β} {M:List Nat} {w:World} {m r clock:Nat} {l:List (κ×β)} {arr:Array MapEntry}
theorem rR{xt k e:TypeId}(hu:P.underlying xt=some (.map k e))(h:fG enc t M w m l arr clock){Q:Value->World->Prop}
 (hq:∀w',ou w' w.heap.size m arr clock []->KpL [] w w'->Q (.pointer (some ⟨w.heap.size,0,none⟩)) w'):Ev P (Instr.range xt (.map (some m))) w Q :=
 ⟨_,_,run_range_map w xt k e m arr clock hu h.blk,hq _ ⟨heap_alloc_new _ _,by simp,by simp⟩ ((KpL.refl _ _).alloc _)⟩
theorem fG.born_inj(h:fG enc t M w m l arr clock){i j:Nat}(hi:i<arr.size)(hj:j<arr.size)(he:arr[i].born=arr[j].born):i=j:=by
 have hp:=List.pairwise_iff_getElem.1 h.born
 rcases Nat.lt_trichotomy i j with hlt|heq|hgt
 ·have:=hp i j (by simpa using hi) (by simpa using hj) hlt
  simp at this
  exact absurd he this
 ·exact heq
 ·have:=hp j i (by simpa using hj) (by simpa using hi) hgt
  simp at this
  exact absurd he.symm this
theorem mL{ty:Nat}(h:fG enc t M w m l arr clock){vis:List Nat}(hit:ou w r m arr clock vis){Q:Value->World->Prop}(h1:(∀i,i<l.length->i∈vis)->∀w',KpL [] w w'->w'.heap=w.heap->Q (.tuple #[.bool false]) w')
 (h2:∀i p cs w',i∉vis->l[i]?=some p->R t (m::M) w p.2 cs->ou w' r m arr clock (vis++[i])->KpL [r] w w'->Q (.tuple #[.bool true,enc p.1,fL cs]) w'):
 Ev P (Instr.next (pK r) false ty) w Q:=by
 have hseen:∀i,i<arr.size->∀(hi:i<arr.size),((vis.map fun i=>(arr.getD i default).born).toArray.contains arr[i].born=true↔i∈vis):=by
  intro i _ hi
  simp only[List.contains_toArray,List.contains_iff_mem,List.mem_map]
  constructor
  ·rintro⟨j,hj,he⟩
   have hjl:=hit.lt j hj
   rw[Array.getD_eq_getD_getElem?,Array.getElem?_eq_getElem hjl,Option.getD_some]at he
   rw[<-h.born_inj hjl hi he]
   exact hj
  ·intro hv
   exact⟨i,hv,by rw[Array.getD_eq_getD_getElem?,Array.getElem?_eq_getElem hi,Option.getD_some]⟩
 have htest:(!(vis.map fun i=>(arr.getD i default).born).toArray.isEmpty && !arr.isEmpty&&arr.all (fun x=>decide (x.born≥clock)))=false:=next_test_false _ _ clock clock h.old (Nat.le_refl _)
 have hit':=hit.it
 generalize hS:(vis.map fun i=>(arr.getD i default).born).toArray=S at *
 have hleft:∀e∈(arr.filter fun e => !S.contains e.born).toList,∃i,∃hi:i<arr.size,arr[i]=e/\i∉vis:=by
  intro e he
  simp only[Array.toList_filter,List.mem_filter]at he
  obtain⟨i,hi,rfl⟩:=List.getElem_of_mem he.1
  have hi':i<arr.size:=by simpa using hi
  refine⟨i,hi',by simp,fun hv=>?_⟩
  have h3:=he.2
  simp only[Array.getElem_toList]at h3
  rw[(hseen i hi' hi').2 hv]at h3
  simp at h3
 have hold:(arr.filter fun e => !S.contains e.born).filter (fun e=>decide (e.born<clock))=(arr.filter fun e => !S.contains e.born):=by
  apply Array.filter_eq_self.2
  intro e he
  obtain⟨i,hi,rfl,_⟩:=hleft e (by simpa using he)
  simpa using h.old arr[i] (by simp)
 have hnew:(arr.filter fun e => !S.contains e.born).filter (fun e=>decide (e.born≥clock))=#[]:=by
  apply Array.filter_eq_empty_iff.2
  intro e he
  obtain⟨i,hi,rfl,_⟩:=hleft e (by simpa using he)
  have:=h.old arr[i] (by simp)
  simp
  omega
 generalize hL:(arr.filter fun e => !S.contains e.born)=L at *
 by_cases hemp:L=#[]
 ·obtain⟨j,w1,hj,hw1,hk1,hrun⟩:=mP (P:=P) (w:=w) (n:=1) (by omega)
  refine⟨_,w1,?_,h1 (fun i hi=>?_) w1 hk1 hw1⟩
  ·have hj0:j=0:=by omega
   subst hj0
   simp only[Instr.next,getObj,Sem.run_bind,Sem.run,hit',Result.andThen_ok,h.blk,htest,Bool.false_eq_true,if_false,hL,hold,hnew]
   have e0:((if L.isEmpty=true then #[none] else #[])++Array.map some (L++#[]))=#[none]:=by simp[hemp]
   rw[e0]
   simp only[List.size_toArray,List.length_cons,List.length_nil,Nat.zero_add,hrun,Result.andThen_ok,List.getElem?_toArray,List.getElem?_cons_zero,Sem.run_pure]
  ·have hia:i<arr.size:=by rw[h.len];exact hi
   apply Classical.byContradiction
   intro hv
   have:arr[i]∈L:=by
    rw[<-hL]
    simp only[Array.mem_filter]
    refine⟨by simp,?_⟩
    have hc:=mt (hseen i hia hia).1 hv
    simpa using hc
   rw[hemp]at this
   simp at this
 ·have hpos:0<L.size:=by
   rcases Nat.eq_zero_or_pos L.size with h0|h0
   ·exact absurd (Array.eq_empty_of_size_eq_zero h0) hemp
   ·exact h0
  obtain⟨j,w1,hj,hw1,hk1,hrun⟩:=mP (P:=P) (w:=w) (n:=L.size) hpos
  obtain⟨i,hi,hie,hiv⟩:=hleft L[j] (by simp)
  have hil:i<l.length:=by rw[<-h.len];exact hi
  obtain⟨cs,hR,hv⟩:=h.vals i _ _ (Array.getElem?_eq_getElem hi) (List.getElem?_eq_getElem hil)
  have hkey:arr[i].key=enc l[i].1:=by
   have:=congrArg (fun x=>x[i]?) h.keys
   simp[hi,hil]at this
   exact this
  have hr:=ab hit.it
  refine⟨_,{ w1 with heap:=w1.heap.setIfInBounds r (.mapIter (some m) clock (S.push arr[i].born) clock) },?_,h2 i l[i] cs _ hiv (List.getElem?_eq_getElem hil) hR ⟨?_,?_,?_⟩ ?_⟩
  ·have hne:L.isEmpty=false:=by simpa using hemp
   have e0:((if L.isEmpty=true then #[none] else #[])++Array.map some (L++#[]))=L.map some:=by simp[hne]
   have e1:(L.map some)[j]?=some (some arr[i]):=by simp[hj,hie]
   simp only[Instr.next,getObj,setObj,Sem.run_bind,Sem.run,hit',Result.andThen_ok,h.blk,htest,Bool.false_eq_true,if_false,hL,hold,hnew]
   rw[e0]
   have hw1r:w1.heap[r]?=_:=(congrArg (fun h=>h[r]?) hw1).trans hit'
   simp only[Array.size_map,hrun,Result.andThen_ok,e1,Sem.run_bind,Sem.run,hkey,hv,hw1r]
   rfl
  ·simp only[hw1]
   simp[hr,<-hS,Array.getD_eq_getD_getElem?,hi]
  ·intro x hx
   rcases List.mem_append.1 hx with hx|hx
   ·exact hit.lt x hx
   ·simp at hx;subst hx;exact hi
  ·rw[List.nodup_append]
   refine⟨hit.nd,by simp,fun a ha b hb=>?_⟩
   simp at hb
   subst hb
   rintro rfl
   exact hiv ha
  ·refine⟨hk1.os,hk1.tape,hk1.output,hk1.drawn,by simp[hw1],fun b hb hn=>?_⟩
   simp only[List.mem_singleton]at hn
   simp[hw1,Array.getElem?_setIfInBounds,Ne.symm hn]
theorem ke(h:fG enc t M w m l arr clock){vis:List Nat}{i:Nat}(hit:ou w r m arr clock (vis++[i])){Q:Value->World->Prop}
 (h2:∀p cs,l[i]?=some p->R t (m::M) w p.2 cs->Q (.tuple #[enc p.1,fL cs]) w):Ev P (Instr.entry (pK r)) w Q:=by
 have hi:i<arr.size:=hit.lt i (by simp)
 have hil:i<l.length:=by rw[<-h.len];exact hi
 obtain⟨cs,hR,hv⟩:=h.vals i _ _ (Array.getElem?_eq_getElem hi) (List.getElem?_eq_getElem hil)
 have hkey:arr[i].key=enc l[i].1:=by
  have:=congrArg (fun x=>x[i]?) h.keys
  simp[hi,hil]at this
  exact this
 have hf:arr.find? (·.born == arr[i].born)=some arr[i]:=by rw[<-Array.find?_toList];exact find_born arr[i] arr.toList h.born (by simp)
 have hb:((vis++[i]).map fun i=>(arr.getD i default).born).toArray.back?=some arr[i].born:=by
  simp[Array.getD_eq_getD_getElem?,hi]
 refine⟨_,w,?_,h2 l[i] cs (List.getElem?_eq_getElem hil) hR⟩
 simp only[Instr.entry,getObj,Sem.run_bind,Sem.run,hit.it,Result.andThen_ok,hb,h.blk,bne_self_eq_false,Bool.false_eq_true,if_false,hf,hkey,hv]
 rfl
end
end Go.Vc
namespace Go.Vc
open Go Go.Proofs
open Go.Value Go.Ending Go.IntKind
set_option maxRecDepth 100000
section
variable{w:World}{R:Ending->World->Prop}
theorem C4{aa:Option Addr}{an ac:Nat}{m:Nat}
 (h :
 (¬(↑an:Int)<(1:Int)->((4:Int)<(↑an:Int)->R (returned (iv 13)) w)/\(¬(4:Int)<(↑an:Int)->∃(P1:LP)(P2:LM),P1 [iv 0] w/\∀n1 w1,P1 [iv n1] w1->(n1<(↑an:Int)->Ad aa n1 an fun d1=>∃s1 n2 n3,ao w1 (d1.add (n1.toNat*3)) [string s1,iv n2,iv n3]/\∀k1,w1.heap.size<=k1->∀w2,KpL [] w1 w2->ag Zz 98 #[string s1] w2 fun e1 w3 =>
 ∃b1,e1=returned (bv b1)/\KpL [] w2 w3/\((!b1)=false->Ev Zz (Instr.lookup 181 (map (some m)) (string s1) false) w3 fun y1 w4 =>
 ∃b2,y1=bv b2/\∃l1,KpL l1 w3 w4/\af k1 l1/\(b2=true->R (returned (iv 11)) w4)/\(b2=false->(¬n2 < -1073741824->(¬1073741824<n2->(¬n3<n2->(1073741825<n3->R (returned (iv 3)) w4)/\(¬1073741825<n3->Ev Zz (do
 Instr.mapUpdate 181 (map (some m)) (string s1) (bv true)
 pure undef) w4 fun y2 w5 =>
 y2=tuple #[]/\∃l2,KpL l2 w4 w5/\af k1 l2/\ar i64 (n1+1)/\P1 [iv (n1+1)] w5/\P2 [iv (n1+1)] w5<P2 [iv n1] w1))/\(n3<n2->R (returned (iv 3)) w4))/\(1073741824<n2->R (returned (iv 3)) w4))/\(n2 < -1073741824->R (returned (iv 3)) w4)))/\((!b1)=true->R (returned (iv 11)) w3))/\(¬n1<(↑an:Int)->R (returned (iv 0)) w1)))/\((↑an:Int)<(1:Int)->R (returned (iv 13)) w)):Calls Zz 162 #[slice aa an ac,map (some m)] w R :=
 fz { loops:=[⟨4,[17],[4,6]++rg 18 37,[]⟩] } [av (.slice aa an ac),av (.map (some m))] Tryz.func162 h
theorem BI{aa:Option Addr}{an ac:Nat}
 (h :
 Ev Zz (Instr.makeMap 181 none) w fun y1 w1 =>
 ∃m1,y1=map m1/\∃l1,KpL l1 w w1/\ag Zz 162 #[slice aa an ac,map m1] w1 fun e1 w2 =>
 ∃n1,e1=returned (iv n1)/\∃l2,KpL l2 w1 w2/\R (returned (iv n1)) w2):Calls Zz 153 #[slice aa an ac] w R :=
 fz { muts:=[162] } [av (.slice aa an ac)] Tryz.func153 h
theorem xZ{aa:Option Addr}{an ac:Nat}{ba:Option Addr}{bn bc:Nat}
 (h :
 Ev Zz (Instr.makeMap 181 none) w fun y1 w1 =>
 ∃m1,y1=map m1/\∃l1,KpL l1 w w1/\ag Zz 162 #[slice aa an ac,map m1] w1 fun e1 w2 =>
 ∃n1,e1=returned (iv n1)/\∃l2,KpL l2 w1 w2/\(n1≠0->R (returned (iv n1)) w2)/\(¬n1≠0->(¬(↑bn:Int)<(1:Int)->((6:Int)<(↑bn:Int)->R (returned (iv 9)) w2)/\(¬(6:Int)<(↑bn:Int)->∃(P1:LP)(P2:LM),P1 [iv 0] w2/\∀n2 w3,P1 [iv n2] w3->(n2<(↑bn:Int)->Ad ba n2 bn fun d1=>∃s1 n3,ao w3 (d1.add (n2.toNat*2)) [string s1,iv n3]/\∀k1,w3.heap.size<=k1->∀w4,KpL [] w3 w4->ag Zz 98 #[string s1] w4 fun e2 w5 =>
 ∃b1,e2=returned (bv b1)/\KpL [] w4 w5/\((!b1)=false->Ev Zz (Instr.lookup 181 (map m1) (string s1) false) w5 fun y2 w6 =>
 ∃b2,y2=bv b2/\∃l3,KpL l3 w5 w6/\af k1 l3/\(b2=true->R (returned (iv 11)) w6)/\(b2=false->(¬n3<1->(4<n3->R (returned (iv 12)) w6)/\(¬4<n3->Ev Zz (do
 Instr.mapUpdate 181 (map m1) (string s1) (bv true)
 pure undef) w6 fun y3 w7 =>
 y3=tuple #[]/\∃l4,KpL l4 w6 w7/\af k1 l4/\ar i64 (n2+1)/\P1 [iv (n2+1)] w7/\P2 [iv (n2+1)] w7<P2 [iv n2] w3))/\(n3<1->R (returned (iv 12)) w6)))/\((!b1)=true->R (returned (iv 11)) w5))/\(¬n2<(↑bn:Int)->R (returned (iv 0)) w3)))/\((↑bn:Int)<(1:Int)->R (returned (iv 9)) w2))):Calls Zz 133 #[slice aa an ac,slice ba bn bc] w R :=
 fz { loops:=[⟨8,[26],[4,8]++rg 27 25,[]⟩],muts:=[162] } [av (.slice aa an ac),av (.slice ba bn bc)] Tryz.func133 h
theorem BZ{cxa:Option Addr}{cxn cxc:Nat}{cya:Option Addr}{cyn cyc:Nat}{cza:Option Addr}{czn czc:Nat}
 (h :
 ∀k1,w.heap.size<=k1->∀w1,KpL [] w w1->ag Zz 133 #[slice cxa cxn cxc,slice cya cyn cyc] w1 fun e1 w2 =>
 ∃n1,e1=returned (iv n1)/\KpL [] w1 w2/\(n1≠0->R (returned (iv n1)) w2)/\(¬n1≠0->((4096:Int)<(↑czn:Int)->R (returned (iv 9)) w2)/\(¬(4096:Int)<(↑czn:Int)->∃(P1:LP)(P2:LM),P1 [iv 0] w2/\∀n2 w3,P1 [iv n2] w3->(n2<(↑czn:Int)->Ad cza n2 czn fun d1=>∃a1 k2 k3 a2 k4 k5,ao w3 (d1.add (n2.toNat*2)) [slice a1 k2 k3,slice a2 k4 k5]/\∀k6,w3.heap.size<=k6->∀w4,KpL [] w3 w4->ag Zz 134 (#[slice cxa cxn cxc,slice cya cyn cyc,agg #[slice a1 k2 k3,slice a2 k4 k5]]) w4 fun e2 w5 =>
 ∃n3,e2=returned (iv n3)/\KpL [] w4 w5/\(n3≠0->R (returned (iv n3)) w5)/\(¬n3≠0->(n2=0->ar i64 (n2+1)/\P1 [iv (n2+1)] w5/\P2 [iv (n2+1)] w5<P2 [iv n2] w3)/\(¬n2=0->ar i64 (n2 - 1)/\Ad cza (n2 - 1) czn fun d2=>∃a3 k7 k8,ao w5 ((d2.add ((n2 - 1).toNat*2)).add 0) [slice a3 k7 k8]/\∀w6,KpL [] w5 w6->ag Zz 138 #[slice a3 k7 k8,slice a1 k2 k3] w6 fun e3 w7 =>
 ∃n4,e3=returned (iv n4)/\KpL [] w6 w7/\(n4=0->R (returned (iv 5)) w7)/\(¬n4=0->(n4=1->R (returned (iv 2)) w7)/\(¬n4=1->ar i64 (n2+1)/\P1 [iv (n2+1)] w7/\P2 [iv (n2+1)] w7<P2 [iv n2] w3)))))/\(¬n2<(↑czn:Int)->R (returned (iv 0)) w3)))):Calls Zz 70 #[agg #[slice cxa cxn cxc,slice cya cyn cyc,slice cza czn czc]] w R :=
 fz { loops:=[⟨7,[22],[2,4,5,6]++rg 23 30,[]⟩] } [.a (.agg [.v (.slice cxa cxn cxc),.v (.slice cya cyn cyc),.v (.slice cza czn czc)])] Tryz.func70 h
theorem tA{aa:Option Addr}{an ac:Nat}
 (h :
 ((16:Int)<(↑an:Int)->R (returned (iv 9)) w)/\(¬(16:Int)<(↑an:Int)->Ev Zz (Instr.makeMap 181 none) w fun y1 w1 =>
 ∃m1,y1=map m1/\∃l1,KpL l1 w w1/\∃(P1:LP)(P2:LM),P1 [iv 0] w1/\∀n1 w2,P1 [iv n1] w2->(n1<(↑an:Int)->Ad aa n1 an fun d1=>∃s1 a1 k1 k2 a2 k3 k4 a3 k5 k6,ao w2 (d1.add (n1.toNat*4)) [string s1,slice a1 k1 k2,slice a2 k3 k4,slice a3 k5 k6]/\∀k7,w2.heap.size<=k7->∀w3,KpL [] w2 w3->ag Zz 98 #[string s1] w3 fun e1 w4 =>
 ∃b1,e1=returned (bv b1)/\KpL [] w3 w4/\((!b1)=false->Ev Zz (Instr.lookup 181 (map m1) (string s1) false) w4 fun y2 w5 =>
 ∃b2,y2=bv b2/\∃l2,KpL l2 w4 w5/\af k7 l2/\(b2=true->R (returned (iv 11)) w5)/\(b2=false->ag Zz 70 (#[agg #[slice a1 k1 k2,slice a2 k3 k4,slice a3 k5 k6]]) w5 fun e2 w6 =>
 ∃n2,e2=returned (iv n2)/\KpL [] w5 w6/\(n2≠0->R (returned (iv 2)) w6)/\(¬n2≠0->Ev Zz (do
 Instr.mapUpdate 181 (map m1) (string s1) (bv true)
 pure undef) w6 fun y3 w7 =>
 y3=tuple #[]/\∃l3,KpL l3 w6 w7/\af k7 l3/\ar i64 (n1+1)/\P1 [iv (n1+1)] w7/\P2 [iv (n1+1)] w7<P2 [iv n1] w2)))/\((!b1)=true->R (returned (iv 11)) w4))/\(¬n1<(↑an:Int)->R (returned (iv 0)) w2))):Calls Zz 42 #[slice aa an ac] w R :=
 fz { loops:=[⟨5,[12],[2,5]++rg 13 21,[]⟩] } [av (.slice aa an ac)] Tryz.func42 h
theorem zF{aa:Option Addr}{an ac:Nat}
 (h :
 ∀k1,w.heap.size<=k1->∀w1,KpL [] w w1->Hb w1 k1 #[slice none 0 0,slice none 0 0] 189->ag Zz 153 #[slice aa an ac] w1 fun e1 w2 =>
 ∃n1,e1=returned (iv n1)/\KpL [] w1 w2/\(n1≠0->∀w3,KpL [k1] w2 w3->Hb w3 k1 #[slice none 0 0,slice none 0 0] 189->R (returned (tuple #[agg #[slice none 0 0,slice none 0 0],iv n1])) w3)/\(¬n1≠0->∀k2,w2.heap.size<=k2->∃(P1:LP)(P2:LM),(∀w4,KpL [] w2 w4->Hb w4 k2 #[slice none 0 0,slice none 0 0] 189/\Hb w4 k1 #[slice none 0 0,slice none 0 0] 189->P1 [iv 0,slice none 0 0,slice none 0 0] w4)/\∀n2 a1 k3 k4 a2 k5 k6 w5,Hb w5 k2 #[slice a1 k3 k4,slice a2 k5 k6] 189->P1 [iv n2,slice a1 k3 k4,slice a2 k5 k6] w5->(n2<(↑an:Int)->Ad aa n2 an fun d1=>(Hb w5 k2 #[slice a1 k3 k4,slice a2 k5 k6] 189/\Hb w5 k1 #[slice none 0 0,slice none 0 0] 189->∃s1 n3 n4,ao w5 (d1.add (n2.toNat*3)) [string s1,iv n3,iv n4]/\∀k7,w5.heap.size<=k7->(∀k8,w5.heap.size<=k8->(∀w6,KpL [] w5 w6->Hb w6 k8 #[iv n3] 3/\Hb w6 k7 #[string s1,iv n3,iv n4] 153/\Hb w6 k2 #[slice a1 k3 k4,slice a2 k5 k6] 189/\Hb w6 k1 #[slice none 0 0,slice none 0 0] 189->Ev Zz (Builtin.append_ #[78,78] 78 #[slice a1 k3 k4,sK k8 1 1]) w6 fun y1 w7 =>
 ∃a3 k9 k10,y1=slice a3 k9 k10/\∃l1,KpL l1 w6 w7/\(af k8 l1/\af k7 l1/\af k2 l1/\af k1 l1)/\(Hb w7 k8 #[iv n3] 3/\Hb w7 k7 #[string s1,iv n3,iv n4] 153/\Hb w7 k2 #[slice a1 k3 k4,slice a2 k5 k6] 189/\Hb w7 k1 #[slice none 0 0,slice none 0 0] 189->(ao w7 (Addr.mk k7 (0+2) none) [iv n4]/\ao w7 (Addr.mk k2 (0+1) none) [slice a2 k5 k6]/\True)/\∀k11,w7.heap.size<=k11->∀w8,KpL [] w7 w8->Hb w8 k11 #[iv n4] 3/\Hb w8 k8 #[iv n3] 3/\Hb w8 k7 #[string s1,iv n3,iv n4] 153/\Hb w8 k2 #[slice a1 k3 k4,slice a2 k5 k6] 189/\Hb w8 k1 #[slice none 0 0,slice none 0 0] 189->Ev Zz (Builtin.append_ #[78,78] 78 #[slice a2 k5 k6,sK k11 1 1]) w8 fun y2 w9 =>
 ∃a4 k12 k13,y2=slice a4 k12 k13/\∃l2,KpL l2 w8 w9/\(af k11 l2/\af k8 l2/\af k7 l2/\af k2 l2/\af k1 l2)/\ar i64 (n2+1)/\∀w10,KpL [k2,k2] w9 w10->Hb w10 k11 #[iv n4] 3/\Hb w10 k8 #[iv n3] 3/\Hb w10 k7 #[string s1,iv n3,iv n4] 153/\Hb w10 k2 #[slice a3 k9 k10,slice a4 k12 k13] 189/\Hb w10 k1 #[slice none 0 0,slice none 0 0] 189->P1 [iv (n2+1),slice a3 k9 k10,slice a4 k12 k13] w10/\P2 [iv (n2+1),slice a3 k9 k10,slice a4 k12 k13] w10<P2 [iv n2,slice a1 k3 k4,slice a2 k5 k6] w5))/\∀k14,w5.heap.size<=k14->∀w11,KpL [] w5 w11->Hb w11 k14 #[iv n4] 3/\Hb w11 k8 #[iv n3] 3/\Hb w11 k7 #[string s1,iv n3,iv n4] 153/\Hb w11 k2 #[slice a1 k3 k4,slice a2 k5 k6] 189/\Hb w11 k1 #[slice none 0 0,slice none 0 0] 189->Ev Zz (Builtin.append_ #[78,78] 78 #[slice a1 k3 k4,sK k8 1 1]) w11 fun y3 w12 =>
 ∃a5 k15 k16,y3=slice a5 k15 k16/\∃l3,KpL l3 w11 w12/\(af k14 l3/\af k8 l3/\af k7 l3/\af k2 l3/\af k1 l3)/\(Hb w12 k14 #[iv n4] 3/\Hb w12 k8 #[iv n3] 3/\Hb w12 k7 #[string s1,iv n3,iv n4] 153/\Hb w12 k2 #[slice a1 k3 k4,slice a2 k5 k6] 189/\Hb w12 k1 #[slice none 0 0,slice none 0 0] 189->(ao w12 (Addr.mk k2 (0+1) none) [slice a2 k5 k6]/\True)/\(Hb w12 k14 #[iv n4] 3/\Hb w12 k8 #[iv n3] 3/\Hb w12 k7 #[string s1,iv n3,iv n4] 153/\Hb w12 k2 #[slice a1 k3 k4,slice a2 k5 k6] 189/\Hb w12 k1 #[slice none 0 0,slice none 0 0] 189->Ev Zz (Builtin.append_ #[78,78] 78 #[slice a2 k5 k6,sK k14 1 1]) w12 fun y4 w13 =>
 ∃a6 k17 k18,y4=slice a6 k17 k18/\∃l4,KpL l4 w12 w13/\(af k14 l4/\af k8 l4/\af k7 l4/\af k2 l4/\af k1 l4)/\ar i64 (n2+1)/\∀w14,KpL [k2,k2] w13 w14->Hb w14 k14 #[iv n4] 3/\Hb w14 k8 #[iv n3] 3/\Hb w14 k7 #[string s1,iv n3,iv n4] 153/\Hb w14 k2 #[slice a5 k15 k16,slice a6 k17 k18] 189/\Hb w14 k1 #[slice none 0 0,slice none 0 0] 189->P1 [iv (n2+1),slice a5 k15 k16,slice a6 k17 k18] w14/\P2 [iv (n2+1),slice a5 k15 k16,slice a6 k17 k18] w14<P2 [iv n2,slice a1 k3 k4,slice a2 k5 k6] w5)))/\∀k19,w5.heap.size<=k19->∀k20,w5.heap.size<=k20->∀w15,KpL [] w5 w15->Hb w15 k20 #[iv n3] 3/\Hb w15 k19 #[iv n4] 3/\Hb w15 k7 #[string s1,iv n3,iv n4] 153/\Hb w15 k2 #[slice a1 k3 k4,slice a2 k5 k6] 189/\Hb w15 k1 #[slice none 0 0,slice none 0 0] 189->Ev Zz (Builtin.append_ #[78,78] 78 #[slice a1 k3 k4,sK k20 1 1]) w15 fun y5 w16 =>
 ∃a7 k21 k22,y5=slice a7 k21 k22/\∃l5,KpL l5 w15 w16/\(af k20 l5/\af k19 l5/\af k7 l5/\af k2 l5/\af k1 l5)/\(Hb w16 k20 #[iv n3] 3/\Hb w16 k19 #[iv n4] 3/\Hb w16 k7 #[string s1,iv n3,iv n4] 153/\Hb w16 k2 #[slice a1 k3 k4,slice a2 k5 k6] 189/\Hb w16 k1 #[slice none 0 0,slice none 0 0] 189->(ao w16 (Addr.mk k2 (0+1) none) [slice a2 k5 k6]/\True)/\(Hb w16 k20 #[iv n3] 3/\Hb w16 k19 #[iv n4] 3/\Hb w16 k7 #[string s1,iv n3,iv n4] 153/\Hb w16 k2 #[slice a1 k3 k4,slice a2 k5 k6] 189/\Hb w16 k1 #[slice none 0 0,slice none 0 0] 189->Ev Zz (Builtin.append_ #[78,78] 78 #[slice a2 k5 k6,sK k19 1 1]) w16 fun y6 w17 =>
 ∃a8 k23 k24,y6=slice a8 k23 k24/\∃l6,KpL l6 w16 w17/\(af k20 l6/\af k19 l6/\af k7 l6/\af k2 l6/\af k1 l6)/\ar i64 (n2+1)/\∀w18,KpL [k2,k2] w17 w18->Hb w18 k20 #[iv n3] 3/\Hb w18 k19 #[iv n4] 3/\Hb w18 k7 #[string s1,iv n3,iv n4] 153/\Hb w18 k2 #[slice a7 k21 k22,slice a8 k23 k24] 189/\Hb w18 k1 #[slice none 0 0,slice none 0 0] 189->P1 [iv (n2+1),slice a7 k21 k22,slice a8 k23 k24] w18/\P2 [iv (n2+1),slice a7 k21 k22,slice a8 k23 k24] w18<P2 [iv n2,slice a1 k3 k4,slice a2 k5 k6] w5))))/\(¬n2<(↑an:Int)->∀w19,KpL [k1] w5 w19->Hb w19 k2 #[slice a1 k3 k4,slice a2 k5 k6] 189/\Hb w19 k1 #[slice a1 k3 k4,slice a2 k5 k6] 189->R (returned (tuple #[agg #[slice a1 k3 k4,slice a2 k5 k6],iv 0])) w19))):Calls Zz 104 #[slice aa an ac] w R :=
 fz { loops:=[⟨6,[16],[7]++rg 17 18,[5]⟩],all:=true } [av (.slice aa an ac)] Tryz.func104 h
end
end Go.Vc
namespace Go.Vc
open Go Go.Proofs
instance lawBA:LawfulBEq ByteArray where
 eq_of_beq h:=(Dp _ _).1 h
 rfl:=(Dp _ _).2 rfl
def jL(M:List Nat)(w:World)(m:Nat)(met:List ByteArray):Prop:=cZ Value.string tB M w m (met.map fun s=>(s,true))
theorem EY:Tryz.prog.underlying 181=some (.map 9 4):=by kernel_rfl
theorem ky{P:Program}{t:TypeId}{z:Value}(h:(P.info? t).bind (·.zero)=some z)(w:World):(zeroValue t).run P w=.ok z w:=by
 obtain⟨i,hi,hz⟩:=Option.bind_eq_some_iff.1 h
 simp[zeroValue,aW hi,hz]
theorem z4(w:World):(zeroValue 4).run Zz w=.ok (.bool false) w:=ky (by kernel_rfl) w
theorem tK(met:List ByteArray)(s:ByteArray):bQ (met.map fun s=>(s,true)) s=if s∈met then some true else none:=by
 unfold bQ
 by_cases h:s∈met
 ·rw[if_pos h]
  have:(met.map fun s=>(s,true)).find? (fun p=>decide (p.1=s))=some (s,true):=by
   induction met with
   |nil=>simp at h
   |cons x r ih =>
    rw[List.map_cons,List.find?_cons]
    by_cases hx:x=s
    ·simp[hx]
    ·simp only[hx,decide_false]
     exact ih (by simpa[Ne.symm hx]using h)
  rw[this];rfl
 ·rw[if_neg h]
  have:(met.map fun s=>(s,true)).find? (fun p=>decide (p.1=s))=none:=by
   rw[List.find?_eq_none]
   intro p hp
   simp only[List.mem_map]at hp
   obtain⟨x,hx,rfl⟩:=hp
   simp only[decide_eq_true_eq]
   rintro rfl
   exact h hx
  rw[this];rfl
theorem uh{M:List Nat}{w:World}{m:Nat}{met:List ByteArray}(h:jL M w m met)(s:ByteArray){Q:Value->World->Prop}(hq:Q (.bool (decide (s∈met))) w):
 Ev Zz (Instr.lookup 181 (.map (some m)) (.string s) false) w Q:=by
 refine jp (enc:=Value.string) Bv EY z4 h s false (fun x cs hg hR=>?_) (fun hg=>?_)
 ·rw[tK]at hg
  split at hg
  ·rename_i hm
   simp only[Option.some.injEq]at hg
   subst hg
   have:cs=[.bool true]:=hR
   subst this
   rw[decide_eq_true hm]at hq
   exact hq
  ·cases hg
 ·rw[tK]at hg
  split at hg
  ·cases hg
  ·rename_i hm
   rw[decide_eq_false hm]at hq
   exact hq
theorem qK{M:List Nat}{w:World}{m:Nat}{met:List ByteArray}(h:jL M w m met){s:ByteArray}(hs:s∉met){Q:Value->World->Prop}(hq:∀w',jL M w' m (met++[s])->KpL [m] w w'->Q undef w'):
 Ev Zz (do Instr.mapUpdate 181 (.map (some m)) (.string s) (.bool true);pure undef) w Q:=by
 refine dv (enc:=Value.string) (cs:=[.bool true]) (v:=true) Bv EY h s rfl fun w' hm hk=>hq w' ?_ hk
 have:dX (met.map fun s=>(s,true)) s true=(met++[s]).map fun s=>(s,true):=by
  unfold dX
  rw[if_neg]
  ·simp
  ·simp only[List.any_map,List.any_eq_true,not_exists]
   intro x hx
   simp at hx
   exact hs (hx.2▸hx.1)
 rw[this]at hm
 exact hm
def dB:List ByteArray->List dI->Int×List ByteArray
 |met,[]=>(0,met)
 |met,d::r=>if bx d.name=false∨d.name∈met then (11,met) else if d.lo < -1073741824∨1073741824<d.lo∨d.hi<d.lo∨1073741825<d.hi then (3,met) else dB (met++[d.name]) r
def bX(met:List ByteArray)(ds:List dI):Int×List ByteArray:=if ds.length<1∨4<ds.length then (13,met) else dB met ds
theorem vT{M M':List Nat}{w:World}{ds:List dI}{a:Option Addr}{n c m:Nat}{met:List ByteArray}(hm:jL M w m met)(hd:R (au bY) (m::M') w ds [.slice a n c]):
 Calls Zz 162 #[.slice a n c,.map (some m)] w fun e w'=>e=.returned (iv (bX met ds).1)/\KpL [m] w w'/\jL M w' m (bX met ds).2:=by
 obtain⟨rfl,hn1,hn2⟩:=hd.sl_len
 have hmx:az=140737488355328:=rfl
 refine C4 ⟨fun h1=>⟨fun h4=>?_,fun h4=>?_⟩,fun h1=>?_⟩
 ·rw[show bX met ds=(13,met) from by unfold bX;rw[if_pos (by omega)]]
  exact⟨rfl,KpL.refl _ _,hm⟩
 rotate_left
 ·rw[show bX met ds=(13,met) from by unfold bX;rw[if_pos (by omega)]]
  exact⟨rfl,KpL.refl _ _,hm⟩
 rw[show bX met ds=dB met ds from by unfold bX;rw[if_neg (by omega)]]
 refine⟨fun vs w'=>∃(i:Nat) (mt:List ByteArray),vs=[iv (i:Int)]/\i<=ds.length/\KpL [m] w w'/\jL M w' m mt/\dB mt (ds.drop i)=dB met ds,fun vs _=>match vs with|[.int _ i]=>ds.length - i.toNat|_=>0,
  ⟨0,met,rfl,by omega,KpL.refl _ _,hm,rfl⟩,?_⟩
 rintro n1 w1 ⟨i,mt,hv,hi,hk,hm1,he1⟩
 obtain rfl:=v1 hv
 have hd1:=hd.kp hk (by simp)
 constructor
 ·intro hlt
  have g1:i<ds.length:=by omega
  obtain⟨ad,cs,rfl,hv1,hld1,_,_⟩:=hd1.sl_get g1
  obtain⟨rfl,hok1⟩:=hv1.dim
  rw[List.drop_eq_getElem_cons g1,dB]at he1
  refine⟨ad,rfl,by omega,hlt,_,_,_,hld1,fun k1 hk1 w2 hk2=>⟨(m9 _ w2).mono ?_⟩⟩
  rintro e w3 ⟨rfl,hk3⟩
  have hk13:=hk2.trans hk3
  have hm3:=hm1.kp0 hk13
  have hml:=hm1.lt
  have hk03:KpL [m] w w3:=hk.trans (hk13.mono (by simp))
  have fin:∀{x:Int} {w':World},dB met ds=(x,mt)->KpL [m] w w'->jL M w' m mt->Ending.returned (iv x)=.returned (iv (dB met ds).1)/\KpL [m] w w'/\jL M w' m (dB met ds).2:=by
   intro x w' h1 h2 h3
   rw[h1]
   exact⟨rfl,h2,h3⟩
  refine⟨_,rfl,hk3,fun hb=>?_,fun hb=>fin (by rw[<-he1,if_pos (.inl (gU hb))]) hk03 hm3⟩
  refine uh hm3 _ ⟨_,rfl,[],KpL.refl _ _,⟨by simp⟩,fun hmem=>fin (by rw[<-he1,if_pos (.inr (of_decide_eq_true hmem))]) hk03 hm3,fun hnm=>?_⟩
  have hnm':=of_decide_eq_false hnm
  rw[if_neg (by rw[eP hb];simp[hnm'])]at he1
  refine⟨fun c1=>⟨fun c2=>⟨fun c3=>⟨fun c4=>fin (by rw[<-he1,if_pos (by omega)]) hk03 hm3,fun c4=>?_⟩,fun c3=>fin (by rw[<-he1,if_pos (by omega)]) hk03 hm3⟩,fun c2=>fin (by rw[<-he1,if_pos (by omega)]) hk03 hm3⟩,fun c1=>fin (by rw[<-he1,if_pos (by omega)]) hk03 hm3⟩
  rw[if_neg (by omega)]at he1
  refine qK hm3 hnm' fun w5 hm5 hk5=>⟨rfl,[m],hk5,⟨by simp;omega⟩,ae.2 (by omega),⟨i+1,_,by simp,by omega,hk03.trans hk5,hm5,he1⟩,?_⟩
  show ds.length - ((i:Int)+1).toNat<ds.length - (i:Int).toNat
  omega
 ·intro hge
  rw[List.drop_eq_nil_of_le (by omega),dB]at he1
  rw[<-he1]
  exact⟨rfl,hk,hm1⟩
theorem zp{M':List Nat}{w:World}{ds:List dI}{a:Option Addr}{n c:Nat}(hd:R (au bY) M' w ds [.slice a n c]):
 Calls Zz 153 #[.slice a n c] w (aA (iv (bX [] ds).1) w):=by
 refine BI (eC (enc:=Value.string) (t:=tB) (M:=[]) (by simp) fun w1 hm1 hk1=>⟨_,rfl,[],hk1,?_⟩)
 refine⟨(vT (M:=[]) (met:=[]) hm1 (hd.fresh hk1 (N:=[w.heap.size]) (by simp))).mono ?_⟩
 rintro e w2 ⟨rfl,hk2,_⟩
 exact⟨_,rfl,_,hk2,rfl,hk1.more hk2 (by simp)⟩
def ez:List ByteArray->List cI->Int
 |_,[]=>0
 |met,a::r=>if bx a.name=false∨a.name∈met then 11 else if a.type<1∨4<a.type then 12 else ez (met++[a.name]) r
def aV(ds:List dI)(ats:List cI):Int:=if (bX [] ds).1≠0 then (bX [] ds).1 else if ats.length<1∨6<ats.length then 9 else ez (bX [] ds).2 ats
theorem pd{M M':List Nat}{w:World}{ds:List dI}{ats:List cI}{a b:Option Addr}{n c m r:Nat}(hd:R (au bY) M w ds [.slice a n c])(ha:R (au bw) M' w ats [.slice b m r]):
 Calls Zz 133 #[.slice a n c,.slice b m r] w (aA (iv (aV ds ats)) w):=by
 obtain⟨rfl,hn1,hn2⟩:=ha.sl_len
 have hmx:az=140737488355328:=rfl
 refine xZ (eC (enc:=Value.string) (t:=tB) (M:=[]) (by simp) fun w1 hm1 hk1=>⟨_,rfl,[],hk1,?_⟩)
 refine⟨(vT (M:=[]) (met:=[]) hm1 (hd.fresh hk1 (N:=[w.heap.size]) (by simp))).mono ?_⟩
 rintro e w2 ⟨rfl,hk2,hm2⟩
 have ha2:=(ha.fresh hk1 (N:=[w.heap.size]) (by simp)).kp hk2 (by simp)
 generalize hmm:w.heap.size=mm at *
 have hk02:KpL [] w w2:=hk1.more hk2 (by simp[hmm])
 have e0:aV ds ats=if (bX [] ds).1≠0 then (bX [] ds).1 else if ats.length<1∨6<ats.length then 9 else ez (bX [] ds).2 ats:=rfl
 refine⟨_,rfl,_,hk2,fun hne=>⟨by rw[e0,if_pos hne],hk02⟩,fun hz=>?_⟩
 rw[if_neg hz]at e0
 refine⟨fun h1=>⟨fun h6=>⟨by rw[e0,if_pos (by omega)],hk02⟩,fun h6=>?_⟩,fun h1=>⟨by rw[e0,if_pos (by omega)],hk02⟩⟩
 rw[if_neg (by omega)]at e0
 refine⟨fun vs w'=>∃(i:Nat) (mt:List ByteArray),vs=[iv (i:Int)]/\i<=ats.length/\KpL [] w w'/\KpL [mm] w2 w'/\jL [] w' mm mt/\ez mt (ats.drop i)=ez (bX [] ds).2 ats,fun vs _=>match vs with|[.int _ i]=>ats.length - i.toNat|_=>0,
  ⟨0,_,rfl,by omega,hk02,KpL.refl _ _,hm2,rfl⟩,?_⟩
 rintro n1 w3 ⟨i,mt,hv,hi,hk03,hk23,hm3,he1⟩
 obtain rfl:=v1 hv
 have ha3:=ha2.kp hk23 (by simp)
 constructor
 ·intro hlt
  have g1:i<ats.length:=by omega
  obtain⟨ad,cs,rfl,hv1,hld1,_,_⟩:=ha3.sl_get g1
  obtain⟨rfl,hok1⟩:=hv1.attr
  rw[List.drop_eq_getElem_cons g1,ez]at he1
  refine⟨ad,rfl,by omega,hlt,_,_,hld1,fun k1 hk1' w4 hk4=>⟨(m9 _ w4).mono ?_⟩⟩
  rintro e w5 ⟨rfl,hk5⟩
  have hk35:=hk4.trans hk5
  have hm5:=hm3.kp0 hk35
  have hml:=hm3.lt
  have hk05:KpL [] w w5:=hk03.trans hk35
  refine⟨_,rfl,hk5,fun hb=>?_,fun hb=>⟨by rw[e0,<-he1,if_pos (.inl (gU hb))],hk05⟩⟩
  refine uh hm5 _ ⟨_,rfl,[],KpL.refl _ _,⟨by simp⟩,fun hmem=>⟨by rw[e0,<-he1,if_pos (.inr (of_decide_eq_true hmem))],hk05⟩,fun hnm=>?_⟩
  have hnm':=of_decide_eq_false hnm
  rw[if_neg (by rw[eP hb];simp[hnm'])]at he1
  refine⟨fun c1=>⟨fun c2=>⟨by rw[e0,<-he1,if_pos (by omega)],hk05⟩,fun c2=>?_⟩,fun c1=>⟨by rw[e0,<-he1,if_pos (by omega)],hk05⟩⟩
  rw[if_neg (by omega)]at he1
  refine qK hm5 hnm' fun w7 hm7 hk7=>⟨rfl,[mm],hk7,⟨by simp;omega⟩,ae.2 (by omega),⟨i+1,_,by simp,by omega,hk05.more hk7 (by simp;omega),(hk23.trans (hk35.mono (by simp))).trans hk7,hm7,he1⟩,?_⟩
  show ats.length - ((i:Int)+1).toNat<ats.length - (i:Int).toNat
  omega
 ·intro hge
  rw[List.drop_eq_nil_of_le (by omega),ez]at he1
  exact⟨by rw[e0,<-he1],hk03⟩
def cX(ds:List dI)(ats:List cI):Option aR->List aR->Int
 |_,[]=>0
 |none,c::r=>if cT ds ats c≠0 then cT ds ats c else cX ds ats (some c) r
 |some p,c::r=>if cT ds ats c≠0 then cT ds ats c else if aY p.at_ c.at_=0 then 5 else if aY p.at_ c.at_=1 then 2 else cX ds ats (some c) r
def oV(x:zj):Int:=if aV x.dims x.attrs≠0 then aV x.dims x.attrs else if 4096<x.cells.length then 9 else cX x.dims x.attrs none x.cells
theorem Az{M1 M2 M3:List Nat}{w:World}{x:zj}{a1 a2 a3:Option Addr}{n1 c1 n2 c2 n3 c3:Nat}(h1:R (au bY) M1 w x.dims [.slice a1 n1 c1])(h2:R (au bw) M2 w x.attrs [.slice a2 n2 c2])(h3:R (au aC) M3 w x.cells [.slice a3 n3 c3]):
 Calls Zz 70 #[.agg #[.slice a1 n1 c1,.slice a2 n2 c2,.slice a3 n3 c3]] w (aA (iv (oV x)) w):=by
 have hmx:az=140737488355328:=rfl
 obtain⟨rfl,_,_⟩:=h3.sl_len
 refine BZ fun _ _ w1 hk1=>⟨(pd (h1.kp0 hk1) (h2.kp0 hk1)).mono ?_⟩
 rintro e w2 ⟨rfl,hk2⟩
 have hk02:=hk1.trans hk2
 have e0:oV x=if aV x.dims x.attrs≠0 then aV x.dims x.attrs else if 4096<x.cells.length then 9 else cX x.dims x.attrs none x.cells:=rfl
 refine⟨_,rfl,hk2,fun hne=>⟨by rw[e0,if_pos hne],hk02⟩,fun hz=>?_⟩
 rw[if_neg hz]at e0
 refine⟨fun hl=>⟨by rw[e0,if_pos (by omega)],hk02⟩,fun hl=>?_⟩
 rw[if_neg (by omega)]at e0
 refine⟨fun vs w'=>∃(i:Nat),vs=[iv (i:Int)]/\i<=x.cells.length/\KpL [] w w'/\cX x.dims x.attrs (if i=0 then none else x.cells[i - 1]?) (x.cells.drop i)=cX x.dims x.attrs none x.cells,fun vs _=>match vs with|[.int _ i]=>x.cells.length - i.toNat|_=>0,
  ⟨0,rfl,by omega,hk02,rfl⟩,?_⟩
 rintro n1 w3 ⟨i,hv,hi,hk,he1⟩
 obtain rfl:=v1 hv
 constructor
 ·intro hlt
  have g1:i<x.cells.length:=by omega
  obtain⟨ad,cs,rfl,hv1,hld1,_,_⟩:=(h3.kp0 hk).sl_get g1
  obtain⟨b1,p1,q1,b2,p2,q2,rfl,hx1,hx2⟩:=hv1.cell
  rw[List.drop_eq_getElem_cons g1]at he1
  refine⟨ad,rfl,by omega,hlt,_,_,_,_,_,_,hld1,fun k1 hk1' w4 hk4=>⟨(ww ((h1.kp0 hk).kp0 hk4) ((h2.kp0 hk).kp0 hk4) (hx1.kp0 hk4) (hx2.kp0 hk4)).mono ?_⟩⟩
  rintro e w5 ⟨rfl,hk5⟩
  have hk35:=hk4.trans hk5
  have hk05:KpL [] w w5:=hk.trans hk35
  have dec:x.cells.length - ((i:Int)+1).toNat<x.cells.length - (i:Int).toNat:=by omega
  refine⟨_,rfl,hk5,fun hne=>⟨?_,hk05⟩,fun hz2=>⟨fun hi0=>⟨ae.2 (by omega),⟨i+1,by simp,by omega,hk05,?_⟩,dec⟩,fun hi0=>?_⟩⟩
  ·rw[e0,<-he1]
   cases (if i=0 then none else x.cells[i - 1]?)<;>rw[cX,if_pos hne]
  ·rw[if_pos (by omega),cX,if_neg hz2]at he1
   rw[if_neg (by omega),Nat.add_sub_cancel,List.getElem?_eq_getElem g1]
   exact he1
  have g2:i - 1<x.cells.length:=by omega
  obtain⟨ad2,cs2,had2,hv2,hld2,_,_,hpt⟩:=(h3.kp0 hk05).sl_get2 g2
  simp only[Option.some.injEq]at had2
  subst had2
  obtain⟨b1',p1',q1',b2',p2',q2',rfl,hx1',hx2'⟩:=hv2.cell
  rw[if_neg (by omega),List.getElem?_eq_getElem g2,cX,if_neg hz2]at he1
  refine⟨ae.2 (by omega),ad,rfl,by omega,by omega,b1',p1',q1',?_,fun w6 hk6=>⟨(iN (hx1'.kp0 hk6) ((hx1.kp0 hk35).kp0 hk6)).mono ?_⟩⟩
  ·have:=hpt 0 [.slice b1' p1' q1'] rfl
   rw[show((i:Int) - 1).toNat=i - 1 from by omega]
   exact this
  rintro e w7 ⟨rfl,hk7⟩
  have hk07:KpL [] w w7:=(hk05.trans hk6).trans hk7
  refine⟨_,rfl,hk7,fun c0=>⟨by rw[e0,<-he1,if_pos c0],hk07⟩,fun c0=>⟨fun c1=>⟨by rw[e0,<-he1,if_neg c0,if_pos c1],hk07⟩,fun c1=>⟨ae.2 (by omega),⟨i+1,by simp,by omega,hk07,?_⟩,dec⟩⟩⟩
  rw[if_neg c0,if_neg c1]at he1
  rw[if_neg (by omega),Nat.add_sub_cancel,List.getElem?_eq_getElem g1]
  exact he1
 ·intro hge
  rw[List.drop_eq_nil_of_le (by omega)]at he1
  refine⟨?_,hk⟩
  rw[e0,<-he1]
  cases (if i=0 then none else x.cells[i - 1]?)<;>rfl
def xR:List ByteArray->List Nm->Int
 |_,[]=>0
 |met,x::r=>if bx x.name=false∨x.name∈met then 11 else if oV x.arr≠0 then 2 else xR (met++[x.name]) r
def mn(db:List Nm):Int:=if 16<db.length then 9 else xR [] db
theorem sH{M:List Nat}{w:World}{db:List Nm}{a:Option Addr}{n c:Nat}(hd:R (au gG) M w db [.slice a n c]):Calls Zz 42 #[.slice a n c] w (aA (iv (mn db)) w):=by
 obtain⟨rfl,hn1,hn2⟩:=hd.sl_len
 have hmx:az=140737488355328:=rfl
 have e0:mn db=if 16<db.length then 9 else xR [] db:=rfl
 refine tA ⟨fun h=>⟨by rw[e0,if_pos (by omega)],KpL.refl _ _⟩,fun h=>?_⟩
 rw[if_neg (by omega)]at e0
 refine eC (enc:=Value.string) (t:=tB) (M:=[]) (by simp) fun w1 hm1 hk1=>⟨_,rfl,[],hk1,?_⟩
 have hd1:=hd.fresh hk1 (N:=[w.heap.size]) (by simp)
 generalize hmm:w.heap.size=mm at *
 refine⟨fun vs w'=>∃(i:Nat) (mt:List ByteArray),vs=[iv (i:Int)]/\i<=db.length/\KpL [] w w'/\KpL [mm] w1 w'/\jL [] w' mm mt/\xR mt (db.drop i)=xR [] db,fun vs _=>match vs with|[.int _ i]=>db.length - i.toNat|_=>0,
  ⟨0,[],rfl,by omega,hk1,KpL.refl _ _,hm1,rfl⟩,?_⟩
 rintro n1 w3 ⟨i,mt,hv,hi,hk03,hk23,hm3,he1⟩
 obtain rfl:=v1 hv
 have hd3:=hd1.kp hk23 (by simp)
 constructor
 ·intro hlt
  have g1:i<db.length:=by omega
  obtain⟨ad,cs,rfl,hv1,hld1,_,_⟩:=hd3.sl_get g1
  obtain⟨b1,p1,q1,b2,p2,q2,b3,p3,q3,rfl,hsz,hx1,hx2,hx3⟩:=hv1.nm
  rw[List.drop_eq_getElem_cons g1,xR]at he1
  refine⟨ad,rfl,by omega,hlt,_,_,_,_,_,_,_,_,_,_,hld1,fun k1 hk1' w4 hk4=>⟨(m9 _ w4).mono ?_⟩⟩
  rintro e w5 ⟨rfl,hk5⟩
  have hk35:=hk4.trans hk5
  have hm5:=hm3.kp0 hk35
  have hml:=hm3.lt
  have hk05:KpL [] w w5:=hk03.trans hk35
  refine⟨_,rfl,hk5,fun hb=>?_,fun hb=>⟨by rw[e0,<-he1,if_pos (.inl (gU hb))],hk05⟩⟩
  refine uh hm5 _ ⟨_,rfl,[],KpL.refl _ _,⟨by simp⟩,fun hmem=>⟨by rw[e0,<-he1,if_pos (.inr (of_decide_eq_true hmem))],hk05⟩,fun hnm=>?_⟩
  have hnm':=of_decide_eq_false hnm
  rw[if_neg (by rw[eP hb];simp[hnm'])]at he1
  refine⟨(Az (hx1.kp0 hk35) (hx2.kp0 hk35) (hx3.kp0 hk35)).mono ?_⟩
  rintro e w6 ⟨rfl,hk6⟩
  have hm6:=hm5.kp0 hk6
  have hk06:=hk05.trans hk6
  refine⟨_,rfl,hk6,fun hne=>⟨by rw[e0,<-he1,if_pos hne],hk06⟩,fun hz=>?_⟩
  rw[if_neg hz]at he1
  refine qK hm6 hnm' fun w7 hm7 hk7=>⟨rfl,[mm],hk7,⟨by simp;omega⟩,ae.2 (by omega),⟨i+1,_,by simp,by omega,hk06.more hk7 (by simp;omega),(hk23.trans ((hk35.trans hk6).mono (by simp))).trans hk7,hm7,he1⟩,?_⟩
  show db.length - ((i:Int)+1).toNat<db.length - (i:Int).toNat
  omega
 ·intro hge
  rw[List.drop_eq_nil_of_le (by omega),xR]at he1
  exact⟨by rw[e0,<-he1],hk03⟩
end Go.Vc
namespace Go.Vc
open Go Go.Proofs
open Go.Value Go.Ending Go.IntKind
set_option maxRecDepth 100000
section
variable{w:World}{R:Ending->World->Prop}
theorem uD{n:Int}{dba:Option Addr}{dbn dbc:Nat}
 (h :
 ag Zz 82 #[slice dba dbn dbc] w fun e1 w1 =>
 ∃n1,e1=returned (iv n1)/\KpL [] w w1/\(¬n1≠0->((↑dbn:Int)=(0:Int)->R (returned (tuple #[pointer none,iv 2])) w1)/\(¬(↑dbn:Int)=(0:Int)->∀k1,w1.heap.size<=k1->∃(P1:LP)(P2:LM),(∀w2,KpL [] w1 w2->k1<w2.heap.size->Hb w2 k1 #[iv n,slice none 0 0,slice none 0 0,iv 1] 166->P1 [iv 0,iv n,slice none 0 0,slice none 0 0,iv 1] w2)/\∀n2 n3 a1 k2 k3 a2 k4 k5 n4 w3,k1<w3.heap.size->Hb w3 k1 #[iv n3,slice a1 k2 k3,slice a2 k4 k5,iv n4] 166->P1 [iv n2,iv n3,slice a1 k2 k3,slice a2 k4 k5,iv n4] w3->(n2<(↑dbn:Int)->Ad dba n2 dbn fun d1=>∃s1,ao w3 ((d1.add (n2.toNat*4)).add 0) [string s1]/\Ad dba n2 dbn fun d2=>∃a3 k6 k7 a4 k8 k9 a5 k10 k11,ao w3 ((d2.add (n2.toNat*4)).add 1) [slice a3 k6 k7,slice a4 k8 k9,slice a5 k10 k11]/\∀w4,KpL [] w3 w4->ag Zz 83 (#[agg #[slice a3 k6 k7,slice a4 k8 k9,slice a5 k10 k11]]) w4 fun e2 w5 =>
 ∃a6 k12 k13 a7 k14 k15 a8 k16 k17,e2=returned (agg #[slice a6 k12 k13,slice a7 k14 k15,slice a8 k16 k17])/\KpL [] w4 w5/\∀k18,w5.heap.size<=k18->∀w6,KpL [] w5 w6->k18<w6.heap.size->Hb w6 k18 #[string s1,slice a6 k12 k13,slice a7 k14 k15,slice a8 k16 k17] 60->Ev Zz (Builtin.append_ #[23,23] 23 #[slice a1 k2 k3,sK k18 1 1]) w6 fun y1 w7 =>
 ∃a9 k19 k20,y1=slice a9 k19 k20/\∃l1,KpL l1 w6 w7/\(af k18 l1/\af k1 l1)/\ar i64 (n4+8)/\Ad dba n2 dbn fun d3=>∀w8,KpL [k1] w7 w8->∃a10 k21 k22,ao w8 (((d3.add (n2.toNat*4)).add 1).add 2) [slice a10 k21 k22]/\ar i64 ((3:Int)*(↑k21:Int))/\ar i64 (n4+(8:Int)+(3:Int)*(↑k21:Int))/\ar i64 (n2+1)/\∀w9,KpL [k1] w8 w9->Hb w9 k1 #[iv n3,slice a9 k19 k20,slice a2 k4 k5,iv (n4+(8:Int)+(3:Int)*(↑k21:Int))] 166->P1 [iv (n2+(1:Int)),iv n3,slice a9 k19 k20,slice a2 k4 k5,iv (n4+(8:Int)+(3:Int)*(↑k21:Int))] w9/\P2 [iv (n2+(1:Int)),iv n3,slice a9 k19 k20,slice a2 k4 k5,iv (n4+(8:Int)+(3:Int)*(↑k21:Int))] w9<P2 [iv n2,iv n3,slice a1 k2 k3,slice a2 k4 k5,iv n4] w3)/\(¬n2<(↑dbn:Int)->∀w10,KpL [] w3 w10->ag Zz 84 #[iv n] w10 fun e3 w11 =>
 ∃n5,e3=returned (iv n5)/\KpL [] w10 w11/\(n5<n4->R (returned (tuple #[pointer none,iv 18])) w11)/\(¬n5<n4->R (returned (tuple #[pK k1,iv 0])) w11))))/\(n1≠0->R (returned (tuple #[pointer none,iv 2])) w1)):Calls Zz 21 #[iv n,slice dba dbn dbc] w R :=
 fz { loops:=[⟨5,[7],rg 19 44,[6]⟩],lt:=true } [av (iv n),av (.slice dba dbn dbc)] Tryz.func21 h
theorem Bk{s:Nat}{r:Nat}
 (h :
 ag Zz 16 #[pK s] w fun e1 w1 =>
 ∃a1 k1 k2 n1,e1=returned (tuple #[slice a1 k1 k2,iv n1])/\KpL [] w w1/\ag Zz 30 #[pK s] w1 fun e2 w2 =>
 ∃a2 k3 k4 n2,e2=returned (tuple #[slice a2 k3 k4,iv n2])/\KpL [] w1 w2/\ag Zz 29 #[pK s] w2 fun e3 w3 =>
 ∃n3 n4,e3=returned (tuple #[iv n3,iv n4])/\KpL [] w2 w3/\(n1=0->(n2=0->(n4=0->ag Zz 88 #[pK r] w3 fun e4 w4 =>
 ∃a3 k5 k6,e4=returned (slice a3 k5 k6)/\KpL [] w3 w4/\ag Zz 87 #[slice a1 k1 k2,slice a3 k5 k6] w4 fun e5 w5 =>
 ∃b1,e5=returned (bv b1)/\KpL [] w4 w5/\(b1=true->ag Zz 89 #[pK r] w5 fun e6 w6 =>
 ∃a4 k7 k8,e6=returned (slice a4 k7 k8)/\KpL [] w5 w6/\ag Zz 31 #[slice a2 k3 k4,slice a4 k7 k8] w6 fun e7 w7 =>
 ∃b2,e7=returned (bv b2)/\KpL [] w6 w7/\(b2=true->ag Zz 90 #[pK r] w7 fun e8 w8 =>
 ∃n5,e8=returned (iv n5)/\KpL [] w7 w8/\R (returned (bv (decide (n3=n5)))) w8)/\(b2=false->R (returned (bv false)) w7))/\(b1=false->R (returned (bv false)) w5))/\(¬n4=0->R (returned (bv false)) w3))/\(¬n2=0->R (returned (bv false)) w3))/\(¬n1=0->R (returned (bv false)) w3)):Calls Zz 23 #[pK s,pK r] w R :=
 fz {} [av (pK s),av (pK r)] Tryz.func23 h
theorem qF{dba:Option Addr}{dbn dbc:Nat}
 (h :
 ((16:Int)<(↑dbn:Int)->R (returned (iv 9)) w)/\(¬(16:Int)<(↑dbn:Int)->∃(P1:LP)(P2:LM),P1 [iv 0] w/\∀n1 w1,P1 [iv n1] w1->(n1<(↑dbn:Int)->Ad dba n1 dbn fun d1=>∃s1,ao w1 ((d1.add (n1.toNat*4)).add 0) [string s1]/\ag Zz 139 #[string s1] w1 fun e1 w2 =>
 ∃b1,e1=returned (bv b1)/\KpL [] w1 w2/\((!b1)=true->R (returned (iv 11)) w2)/\((!b1)=false->∃(P3:LP) (P4:LM),P3 [iv 0] w2/\∀n2 w3,P3 [iv n2] w3->(n2<n1->Ad dba n2 dbn fun d2=>∃s2,ao w3 ((d2.add (n2.toNat*4)).add 0) [string s2]/\Ad dba n1 dbn fun d3=>∃s3,ao w3 ((d3.add (n1.toNat*4)).add 0) [string s3]/\(s2=s3->∀w4,KpL [] w3 w4->R (returned (iv 11)) w4)/\(¬s2=s3->ar i64 (n2+1)/\∀w5,KpL [] w3 w5->P3 [iv (n2+1)] w5/\P4 [iv (n2+1)] w5<P4 [iv n2] w3))/\(¬n2<n1->Ad dba n1 dbn fun d4=>∃a1 k1 k2 a2 k3 k4 a3 k5 k6,ao w3 ((d4.add (n1.toNat*4)).add 1) [slice a1 k1 k2,slice a2 k3 k4,slice a3 k5 k6]/\ag Zz 140 (#[agg #[slice a1 k1 k2,slice a2 k3 k4,slice a3 k5 k6]]) w3 fun e2 w6 =>
 ∃n3,e2=returned (iv n3)/\KpL [] w3 w6/\(n3≠0->R (returned (iv 2)) w6)/\(¬n3≠0->ar i64 (n1+1)/\P1 [iv (n1+1)] w6/\P2 [iv (n1+1)] w6<P2 [iv n1] w1))))/\(¬n1<(↑dbn:Int)->R (returned (iv 0)) w1))):Calls Zz 82 #[slice dba dbn dbc] w R :=
 fz { loops:=[⟨9,[4],[2]++rg 21 16,[]⟩,⟨4,[3],[2,4]++rg 8 36,[]⟩] } [av (.slice dba dbn dbc)] Tryz.func82 h
theorem Bj{xa0:Option Addr}{xn0 xc0:Nat}{xa1:Option Addr}{xn1 xc1:Nat}{xa2:Option Addr}{xn2 xc2:Nat}
 (h :
 ∀k1,w.heap.size<=k1->∀k2,w.heap.size<=k2->∀w1,KpL [] w w1->k1<w1.heap.size->k2<w1.heap.size->ag Zz 141 #[slice xa0 xn0 xc0,slice xa1 xn1 xc1] w1 fun e1 w2 =>
 ∃a1 k3 k4 a2 k5 k6 a3 k7 k8,e1=returned (agg #[slice a1 k3 k4,slice a2 k5 k6,slice a3 k7 k8])/\KpL [] w1 w2/\∀k9,w2.heap.size<=k9->∃(P1:LP)(P2:LM),(∀w3,KpL [] w2 w3->k9<w3.heap.size->Hb w3 k9 #[slice a1 k3 k4,slice a2 k5 k6,slice a3 k7 k8] 58->P1 [iv 0,slice a1 k3 k4,slice a2 k5 k6,slice a3 k7 k8] w3)/\∀n1 a4 k10 k11 a5 k12 k13 a6 k14 k15 w4,k9<w4.heap.size->Hb w4 k9 #[slice a4 k10 k11,slice a5 k12 k13,slice a6 k14 k15] 58->P1 [iv n1,slice a4 k10 k11,slice a5 k12 k13,slice a6 k14 k15] w4->(n1<(↑xn2:Int)->Ad xa2 n1 xn2 fun d1=>∃a7 k16 k17 a8 k18 k19,ao w4 (d1.add (n1.toNat*2)) [slice a7 k16 k17,slice a8 k18 k19]/\∀w5,KpL [] w4 w5->ag Zz 142 (#[agg #[slice a7 k16 k17,slice a8 k18 k19]]) w5 fun e2 w6 =>
 ∃a9 k20 k21 a10 k22 k23,e2=returned (agg #[slice a9 k20 k21,slice a10 k22 k23])/\KpL [] w5 w6/\∀k24,w6.heap.size<=k24->∀w7,KpL [] w6 w7->k24<w7.heap.size->Hb w7 k24 #[slice a9 k20 k21,slice a10 k22 k23] 147->Ev Zz (Builtin.append_ #[56,56] 56 #[slice a6 k14 k15,sK k24 1 1]) w7 fun y1 w8 =>
 ∃a11 k25 k26,y1=slice a11 k25 k26/\∃l1,KpL l1 w7 w8/\(af k24 l1/\af k9 l1/\af k2 l1/\af k1 l1)/\ar i64 (n1+1)/\∀w9,KpL [k9] w8 w9->Hb w9 k9 #[slice a4 k10 k11,slice a5 k12 k13,slice a11 k25 k26] 58->P1 [iv (n1+1),slice a4 k10 k11,slice a5 k12 k13,slice a11 k25 k26] w9/\P2 [iv (n1+1),slice a4 k10 k11,slice a5 k12 k13,slice a11 k25 k26] w9<P2 [iv n1,slice a4 k10 k11,slice a5 k12 k13,slice a6 k14 k15] w4)/\(¬n1<(↑xn2:Int)->∀w10,KpL [k2] w4 w10->R (returned (agg #[slice a4 k10 k11,slice a5 k12 k13,slice a6 k14 k15])) w10)):Calls Zz 83 #[agg #[slice xa0 xn0 xc0,slice xa1 xn1 xc1,slice xa2 xn2 xc2]] w R :=
 fz { loops:=[⟨3,[4],rg 10 18,[3]⟩],lt:=true } [.a (.agg [.v (.slice xa0 xn0 xc0),.v (.slice xa1 xn1 xc1),.v (.slice xa2 xn2 xc2)])] Tryz.func83 h
theorem vJ{n:Int}
 (h :
 ar i64 (n - 2)/\(2:Int)≠(0:Int)/\R (returned (iv (i64.wrap ((n - 2).tdiv 2)))) w):Calls Zz 84 #[iv n] w R :=
 fz {} [av (iv n)] Tryz.func84 h
theorem rM{r:Nat}
 (h :
 ∃a1 k1 k2,ao w ((Addr.mk r 0 none).add 1) [slice a1 k1 k2]/\ar i64 ((8:Int)*(↑k1:Int))/\ar i64 ((1:Int)+(8:Int)*(↑k1:Int))/\∃a2 k3 k4,ao w ((Addr.mk r 0 none).add 2) [slice a2 k3 k4]/\ar i64 ((1:Int)+(8:Int)*(↑k1:Int)+(↑k3:Int))/\∀w1,KpL [] w w1->(∃(l1:List Value),ao w1 ((Addr.mk r 0 none).add 3) l1/\l1.length=1)/\aq w1 ((Addr.mk r 0 none).add 3) 1/\∀w2,w2=bL w1 ((Addr.mk r (0:Nat) none).add (3:Nat)) [iv ((1:Int)+(8:Int)*(↑k1:Int)+(↑k3:Int))] (0:Nat)->∃(P1:LP)(P2:LM),P1 [iv 0] w2/\∀n1 w3,P1 [iv n1] w3->∃a3 k5 k6,ao w3 ((Addr.mk r 0 none).add 1) [slice a3 k5 k6]/\(n1<(↑k5:Int)->∃n2,ao w3 ((Addr.mk r 0 none).add 3) [iv n2]/\∀w4,KpL [] w3 w4->ag Zz 143 #[pK r,iv n1] w4 fun e1 w5 =>
 ∃a4 k7 k8,e1=returned (slice a4 k7 k8)/\KpL [] w4 w5/\ar i64 ((3:Int)*(↑k7:Int))/\ar i64 (n2+(3:Int)*(↑k7:Int))/\(∃(l2:List Value),ao w5 ((Addr.mk r 0 none).add 3) l2/\l2.length=1)/\aq w5 ((Addr.mk r 0 none).add 3) 1/\∀w6,w6=bL w5 ((Addr.mk r (0:Nat) none).add (3:Nat)) [iv (n2+(3:Int)*(↑k7:Int))] (0:Nat)->ar i64 (n1+1)/\P1 [iv (n1+1)] w6/\P2 [iv (n1+1)] w6<P2 [iv n1] w3)/\(¬n1<(↑k5:Int)->R (returned (tuple #[])) w3)):Calls Zz 85 #[pK r] w R :=
 fz { loops:=[⟨2,[2],rg 19 22,[0]⟩],lt:=true } [av (pK r)] Tryz.func85 h
theorem Cf{r:Nat}{q0:ByteArray}{q1:Int}{q2:ByteArray}{qa3:Option Addr}{qn3 qc3:Nat}
 (h :
 ∀k1,w.heap.size<=k1->∀w1,KpL [] w w1->k1<w1.heap.size->ag Zz 144 (#[pK r,agg #[string q0,iv q1,string q2,slice qa3 qn3 qc3]]) w1 fun e1 w2 =>
 ∃n1,e1=returned (iv n1)/\KpL [] w1 w2/\(n1≠0->R (returned (tuple #[bv false,iv n1])) w2)/\(¬n1≠0->∃(P1:LP)(P2:LM),P1 [iv 0] w2/\∀n2 w3,P1 [iv n2] w3->∃a1 k2 k3,ao w3 ((Addr.mk r 0 none).add 2) [slice a1 k2 k3]/\(n2<(↑k2:Int)->∃a2 k4 k5,ao w3 ((Addr.mk r 0 none).add 2) [slice a2 k4 k5]/\Ad a2 n2 k4 fun d1=>∃s1,ao w3 ((d1.add (n2.toNat*4)).add 0) [string s1]/\(s1=q0->∀w4,KpL [] w3 w4->R (returned (tuple #[bv false,iv 0])) w4)/\(¬s1=q0->ar i64 (n2+1)/\∀w5,KpL [] w3 w5->P1 [iv (n2+1)] w5/\P2 [iv (n2+1)] w5<P2 [iv n2] w3))/\(¬n2<(↑k2:Int)->ar i64 ((3:Int)*(↑qn3:Int))/\ar i64 ((2:Int)+(3:Int)*(↑qn3:Int))/\∃n3,ao w3 ((Addr.mk r 0 none).add 3) [iv n3]/\ar i64 (n3+((2:Int)+(3:Int)*(↑qn3:Int)))/\∃n4,ao w3 ((Addr.mk r 0 none).add 0) [iv n4]/\∀w6,KpL [] w3 w6->ag Zz 84 #[iv n4] w6 fun e2 w7 =>
 ∃n5,e2=returned (iv n5)/\KpL [] w6 w7/\(n5<n3+((2:Int)+(3:Int)*(↑qn3:Int))->R (returned (tuple #[bv false,iv 18])) w7)/\(¬n5<n3+((2:Int)+(3:Int)*(↑qn3:Int))->∃n6,ao w7 ((Addr.mk r 0 none).add 3) [iv n6]/\ar i64 (n6+((2:Int)+(3:Int)*(↑qn3:Int)))/\(∃(l1:List Value),ao w7 ((Addr.mk r 0 none).add 3) l1/\l1.length=1)/\aq w7 ((Addr.mk r 0 none).add 3) 1/\af k1 [r]/\∀w8,w8=bL w7 ((Addr.mk r (0:Nat) none).add (3:Nat)) [iv (n6+((2:Int)+(3:Int)*(↑qn3:Int)))] (0:Nat)->∃a3 k6 k7,ao w8 ((Addr.mk r 0 none).add 2) [slice a3 k6 k7]/\∀w9,KpL [] w8 w9->Ev Zz (Instr.buildSlice 24 0 #[]) w9 fun y1 w10 =>
 ∃a4 k8 k9,y1=slice a4 k8 k9/\∃l2,KpL l2 w9 w10/\af k1 l2/\Ev Zz (Builtin.append_ #[24,24] 24 #[slice a4 k8 k9,slice a3 k6 k7]) w10 fun y2 w11 =>
 ∃a5 k10 k11,y2=slice a5 k10 k11/\∃l3,KpL l3 w10 w11/\af k1 l3/\(Hb w11 k1 #[string q0,iv q1,string q2,slice qa3 qn3 qc3] 32->(ao w11 (Addr.mk k1 0 none) [string q0,iv q1,string q2,slice qa3 qn3 qc3]/\True)/\ag Zz 145 (#[agg #[string q0,iv q1,string q2,slice qa3 qn3 qc3]]) w11 fun e3 w12 =>
 ∃s2 n7 s3 a6 k12 k13,e3=returned (agg #[string s2,iv n7,string s3,slice a6 k12 k13])/\KpL [] w11 w12/\∀k14,w12.heap.size<=k14->∀w13,KpL [] w12 w13->k14<w13.heap.size->Hb w13 k14 #[string s2,iv n7,string s3,slice a6 k12 k13] 32->Ev Zz (Builtin.append_ #[24,24] 24 #[slice a5 k10 k11,sK k14 1 1]) w13 fun y3 w14 =>
 ∃a7 k15 k16,y3=slice a7 k15 k16/\∃l4,KpL l4 w13 w14/\(af k14 l4/\af k1 l4)/\(∃(l5:List Value),ao w14 ((Addr.mk r 0 none).add 2) l5/\l5.length=1)/\aq w14 ((Addr.mk r 0 none).add 2) 1/\(af k14 [r]/\af k1 [r])/\∀w15,w15=bL w14 ((Addr.mk r 0 none).add 2) [slice a7 k15 k16] 0->R (returned (tuple #[bv true,iv 0])) w15))))):Calls Zz 86 #[pK r,agg #[string q0,iv q1,string q2,slice qa3 qn3 qc3]] w R :=
 fz { loops:=[⟨5,[7],[4,5]++rg 15 20,[]⟩],lt:=true } [av (pK r),.a (.agg [.v (.string q0),.v (iv q1),.v (.string q2),.v (.slice qa3 qn3 qc3)])] Tryz.func86 h
theorem uR{xa:Option Addr}{xn xc:Nat}{ya:Option Addr}{yn yc:Nat}
 (h :
 ((↑xn:Int)≠(↑yn:Int)->R (returned (bv false)) w)/\(¬(↑xn:Int)≠(↑yn:Int)->∃(P1:LP)(P2:LM),P1 [iv 0] w/\∀n1 w1,P1 [iv n1] w1->(n1<(↑xn:Int)->Ad xa n1 xn fun d1=>∃s1,ao w1 ((d1.add (n1.toNat*4)).add 0) [string s1]/\Ad ya n1 yn fun d2=>∃s2,ao w1 ((d2.add (n1.toNat*4)).add 0) [string s2]/\(¬s1≠s2->Ad xa n1 xn fun d3=>∃a1 k1 k2 a2 k3 k4 a3 k5 k6,ao w1 ((d3.add (n1.toNat*4)).add 1) [slice a1 k1 k2,slice a2 k3 k4,slice a3 k5 k6]/\Ad ya n1 yn fun d4=>∃a4 k7 k8 a5 k9 k10 a6 k11 k12,ao w1 ((d4.add (n1.toNat*4)).add 1) [slice a4 k7 k8,slice a5 k9 k10,slice a6 k11 k12]/\∀w2,KpL [] w1 w2->ag Zz 146 (#[agg #[slice a1 k1 k2,slice a2 k3 k4,slice a3 k5 k6],agg #[slice a4 k7 k8,slice a5 k9 k10,slice a6 k11 k12]]) w2 fun e1 w3 =>
 ∃b1,e1=returned (bv b1)/\KpL [] w2 w3/\((!b1)=true->R (returned (bv false)) w3)/\((!b1)=false->ar i64 (n1+1)/\P1 [iv (n1+1)] w3/\P2 [iv (n1+1)] w3<P2 [iv n1] w1))/\(s1≠s2->∀w4,KpL [] w1 w4->R (returned (bv false)) w4))/\(¬n1<(↑xn:Int)->R (returned (bv true)) w1))):Calls Zz 87 #[slice xa xn xc,slice ya yn yc] w R :=
 fz { loops:=[⟨4,[5],[4]++rg 11 31,[]⟩] } [av (.slice xa xn xc),av (.slice ya yn yc)] Tryz.func87 h
def qE(r:Nat)(n1:Int)(w4:World)(k19:Nat)(a7:Option Addr)(k13:Nat)(k14:Nat)(a8:Option Addr)(k15:Nat)(k16:Nat)(a9:Option Addr)(k17:Nat)(k18:Nat)(a1:Option Addr)(k1:Nat)(k2:Nat)(P1:List Value->World->Prop)(P2:List Value->World->Nat)(w1:World):Prop :=
 ag Zz 143 #[pointer (some (Addr.mk r 0 none)),int i64 n1] w4 fun e2 w5 =>
 ∃a10 k20 k21,e2=returned (slice a10 k20 k21)/\KpL [] w4 w5/\∃(P3:List Value->World->Prop) (P4:List Value->World->Nat),(Hb w5 k19 #[slice a7 k13 k14,slice a8 k15 k16,slice a9 k17 k18] 58->P3 [int i64 0,slice a7 k13 k14,slice a8 k15 k16,slice a9 k17 k18] w5)/\∀n2 a11 k22 k23 a12 k24 k25 a13 k26 k27 w6,Hb w6 k19 #[slice a11 k22 k23,slice a12 k24 k25,slice a13 k26 k27] 58->P3 [int i64 n2,slice a11 k22 k23,slice a12 k24 k25,slice a13 k26 k27] w6->(n2<(↑k20:Int)->∃(P5:List Value->World->Prop),(Hb w6 k19 #[slice a11 k22 k23,slice a12 k24 k25,slice a13 k26 k27] 58->∃a14 k28 k29,ao w6 ((Addr.mk r 0 none).add 1) [slice a14 k28 k29]/\∃d3,a14=some d3/\0<=n1/\n1<(↑k28:Int)/\∃s1,ao w6 ((d3.add (n1.toNat*4)).add 0) [string s1]/\∃d4,a10=some d4/\0<=n2/\n2<(↑k20:Int)/\∃a15 k30 k31,ao w6 (d4.add (n2.toNat*1)) [slice a15 k30 k31]/\∀w7,KpL [] w6 w7->ag Zz 147 #[pointer (some (Addr.mk r 0 none)),string s1,slice a15 k30 k31] w7 fun e3 w8 =>
 ∃n3 a16 k32 k33,e3=returned (tuple #[int i64 n3,slice a16 k32 k33])/\KpL [] w7 w8/\∃(P6:List Value->World->Prop),((n3<0->∃a17 k34 k35,ao w8 ((Addr.mk r 0 none).add 1) [slice a17 k34 k35]/\∃d5,a17=some d5/\0<=n1/\n1<(↑k34:Int)/\∃a18 k36 k37,ao w8 (((d5.add (n1.toNat*4)).add 1).add 2) [slice a18 k36 k37]/\∃a19 k38 k39,ao w8 ((Addr.mk r 0 none).add 1) [slice a19 k38 k39]/\∃d6,a19=some d6/\0<=n1/\n1<(↑k38:Int)/\∃a20 k40 k41,ao w8 (((d6.add (n1.toNat*4)).add 1).add 2) [slice a20 k40 k41]/\∃d7,a10=some d7/\0<=n2/\n2<(↑k20:Int)/\∃a21 k42 k43,ao w8 (d7.add (n2.toNat*1)) [slice a21 k42 k43]/\∀w9,KpL [] w8 w9->ag Zz 148 #[slice a20 k40 k41,slice a21 k42 k43] w9 fun e4 w10 =>
 ∃n4,e4=returned (int i64 n4)/\KpL [] w9 w10/\∃d8,a18=some d8/\0<=n4/\n4<(↑k36:Int)/\∃a22 k44 k45,ao w10 ((d8.add (n4.toNat*2)).add 1) [slice a22 k44 k45]/\P6 [slice a22 k44 k45] w10)/\(¬n3<0->P6 [slice a16 k32 k33] w8))/\∀a23 k46 k47 w11,P6 [slice a23 k46 k47] w11->((0:Int)<(↑k46:Int)->∃d9,a10=some d9/\0<=n2/\n2<(↑k20:Int)/\∃a24 k48 k49,ao w11 (d9.add (n2.toNat*1)) [slice a24 k48 k49]/\∀w12,KpL [] w11 w12->ag Zz 142 (#[agg #[slice a24 k48 k49,slice a23 k46 k47]]) w12 fun e5 w13 =>
 ∃a25 k50 k51 a26 k52 k53,e5=returned (agg #[slice a25 k50 k51,slice a26 k52 k53])/\KpL [] w12 w13/\∀k54,w13.heap.size<=k54->∀w14,KpL [] w13 w14->k54<w14.heap.size->Hb w14 k54 #[slice a25 k50 k51,slice a26 k52 k53] 147->Ev Zz (Builtin.append_ #[56,56] 56 #[slice a13 k26 k27,slice (some (Addr.mk k54 0 none)) 1 1]) w14 fun y1 w15 =>
 ∃a27 k55 k56,y1=slice a27 k55 k56/\∃l1,KpL l1 w14 w15/\(af k54 l1/\af k19 l1)/\∀w16,KpL [k19] w15 w16->Hb w16 k19 #[slice a11 k22 k23,slice a12 k24 k25,slice a27 k55 k56] 58->P5 [slice a11 k22 k23,slice a12 k24 k25,slice a27 k55 k56] w16)/\(¬(0:Int)<(↑k46:Int)->Hb w11 k19 #[slice a11 k22 k23,slice a12 k24 k25,slice a13 k26 k27] 58->P5 [slice a11 k22 k23,slice a12 k24 k25,slice a13 k26 k27] w11))/\∀a28 k57 k58 a29 k59 k60 a30 k61 k62 w17,Hb w17 k19 #[slice a28 k57 k58,slice a29 k59 k60,slice a30 k61 k62] 58->P5 [slice a28 k57 k58,slice a29 k59 k60,slice a30 k61 k62] w17->ar i64 (n2+1)/\(Hb w17 k19 #[slice a28 k57 k58,slice a29 k59 k60,slice a30 k61 k62] 58->P3 [int i64 (n2+1),slice a28 k57 k58,slice a29 k59 k60,slice a30 k61 k62] w17/\P4 [int i64 (n2+1),slice a28 k57 k58,slice a29 k59 k60,slice a30 k61 k62] w17<P4 [int i64 n2,slice a11 k22 k23,slice a12 k24 k25,slice a13 k26 k27] w6))/\(¬n2<(↑k20:Int)->∃a31 k63 k64,ao w6 ((Addr.mk r 0 none).add 1) [slice a31 k63 k64]/\∃d10,a31=some d10/\0<=n1/\n1<(↑k63:Int)/\∃s2,ao w6 ((d10.add (n1.toNat*4)).add 0) [string s2]/\∀k65,w6.heap.size<=k65->∀w18,KpL [] w6 w18->k65<w18.heap.size->Hb w18 k65 #[string s2,slice a11 k22 k23,slice a12 k24 k25,slice a13 k26 k27] 60->Ev Zz (Builtin.append_ #[23,23] 23 #[slice a1 k1 k2,slice (some (Addr.mk k65 0 none)) 1 1]) w18 fun y2 w19 =>
 ∃a32 k66 k67,y2=slice a32 k66 k67/\∃l2,KpL l2 w18 w19/\(af k65 l2/\af k19 l2)/\ar i64 (n1+1)/\P1 [slice a32 k66 k67,int i64 (n1+1)] w19/\P2 [slice a32 k66 k67,int i64 (n1+1)] w19<P2 [slice a1 k1 k2,int i64 n1] w1)
theorem DO{r:Nat}
 (h :
 ∃(P1:LP)(P2:LM),P1 [slice none 0 0,iv 0] w/\∀a1 k1 k2 n1 w1,P1 [slice a1 k1 k2,iv n1] w1->∃a2 k3 k4,ao w1 ((Addr.mk r 0 none).add 1) [slice a2 k3 k4]/\(n1<(↑k3:Int)->∃a3 k5 k6,ao w1 ((Addr.mk r 0 none).add 1) [slice a3 k5 k6]/\Ad a3 n1 k5 fun d1=>∃a4 k7 k8,ao w1 (((d1.add (n1.toNat*4)).add 1).add 0) [slice a4 k7 k8]/\∃a5 k9 k10,ao w1 ((Addr.mk r 0 none).add 1) [slice a5 k9 k10]/\Ad a5 n1 k9 fun d2=>∃a6 k11 k12,ao w1 (((d2.add (n1.toNat*4)).add 1).add 1) [slice a6 k11 k12]/\(∀w2,KpL [] w1 w2->ag Zz 141 #[slice a4 k7 k8,slice a6 k11 k12] w2 fun e1 w3 =>
 ∃a7 k13 k14 a8 k15 k16 a9 k17 k18,e1=returned (agg #[slice a7 k13 k14,slice a8 k15 k16,slice a9 k17 k18])/\KpL [] w2 w3/\∀k19,w3.heap.size<=k19->∀w4,KpL [] w3 w4->k19<w4.heap.size->qE r n1 w4 k19 a7 k13 k14 a8 k15 k16 a9 k17 k18 a1 k1 k2 P1 P2 w1)/\∀k68,w1.heap.size<=k68->∀w20,KpL [] w1 w20->k68<w20.heap.size->ag Zz 141 #[slice a4 k7 k8,slice a6 k11 k12] w20 fun e6 w21 =>
 ∃a33 k69 k70 a34 k71 k72 a35 k73 k74,e6=returned (agg #[slice a33 k69 k70,slice a34 k71 k72,slice a35 k73 k74])/\KpL [] w20 w21/\∀w22,KpL [k68] w21 w22->qE r n1 w22 k68 a33 k69 k70 a34 k71 k72 a35 k73 k74 a1 k1 k2 P1 P2 w1)/\(¬n1<(↑k3:Int)->R (returned (slice a1 k1 k2)) w1)):Calls Zz 88 #[pK r] w R :=
 fz { loops:=[⟨8,[7],[8,9]++rg 41 66,[5]⟩,⟨3,[3,4],rg 5 115,[]⟩],cuts:=[⟨9,[],[8,9]++rg 47 60,[5]⟩,⟨13,[9],rg 64 28,[]⟩],lt:=true } [av (pK r)] Tryz.func88 h
theorem vm{r:Nat}
 (h :
 ∃(P1:LP)(P2:LM),P1 [slice none 0 0,iv 0] w/\∀a1 k1 k2 n1 w1,P1 [slice a1 k1 k2,iv n1] w1->∃a2 k3 k4,ao w1 ((Addr.mk r 0 none).add 2) [slice a2 k3 k4]/\(n1<(↑k3:Int)->∃a3 k5 k6,ao w1 ((Addr.mk r 0 none).add 2) [slice a3 k5 k6]/\Ad a3 n1 k5 fun d1=>∃s1,ao w1 ((d1.add (n1.toNat*4)).add 0) [string s1]/\∀k7,w1.heap.size<=k7->∀w2,KpL [] w1 w2->k7<w2.heap.size->Hb w2 k7 #[string s1] 9->Ev Zz (Builtin.append_ #[87,87] 87 #[slice a1 k1 k2,sK k7 1 1]) w2 fun y1 w3 =>
 ∃a4 k8 k9,y1=slice a4 k8 k9/\∃l1,KpL l1 w2 w3/\af k7 l1/\ar i64 (n1+1)/\P1 [slice a4 k8 k9,iv (n1+1)] w3/\P2 [slice a4 k8 k9,iv (n1+1)] w3<P2 [slice a1 k1 k2,iv n1] w1)/\(¬n1<(↑k3:Int)->R (returned (slice a1 k1 k2)) w1)):Calls Zz 89 #[pK r] w R :=
 fz { loops:=[⟨3,[3,4],rg 5 20,[]⟩],lt:=true } [av (pK r)] Tryz.func89 h
theorem BM{r:Nat}
 (h :
 ∃n1,ao w ((Addr.mk r 0 none).add 0) [iv n1]/\∃n2,ao w ((Addr.mk r 0 none).add 3) [iv n2]/\∀w1,KpL [] w w1->ag Zz 84 #[iv n1] w1 fun e1 w2 =>
 ∃n3,e1=returned (iv n3)/\KpL [] w1 w2/\ar i64 (n3 - n2)/\R (returned (iv (n3 - n2))) w2):Calls Zz 90 #[pK r] w R :=
 fz {} [av (pK r)] Tryz.func90 h
theorem t8{c:Int}
 (h :
 (97<=c->R (returned (bv (decide (c<=122)))) w)/\(¬97<=c->R (returned (bv false)) w)):Calls Zz 169 #[int u8 c] w R :=
 fz {} [av (.int .u8 c)] Tryz.func169 h
theorem sI{c:Int}
 (h :
 ag Zz 169 #[int u8 c] w fun e1 w1 =>
 ∃b1,e1=returned (bv b1)/\KpL [] w w1/\(b1=false->(48<=c->(¬c<=57->R (returned (bv (decide (c=95)))) w1)/\(c<=57->R (returned (bv true)) w1))/\(¬48<=c->R (returned (bv (decide (c=95)))) w1))/\(b1=true->R (returned (bv true)) w1)):Calls Zz 170 #[int u8 c] w R :=
 fz {} [av (.int .u8 c)] Tryz.func170 h
theorem zr{s:ByteArray}
 (h :
 (¬(↑s.size:Int)<(1:Int)->(¬(12:Int)<(↑s.size:Int)->(0:Int)<=(0:Int)/\(0:Int)<(↑s.size:Int)/\ag Zz 169 #[int u8 (cW s 0)] w fun e1 w1 =>
 ∃b1,e1=returned (bv b1)/\KpL [] w w1/\((!b1)=true->R (returned (bv false)) w1)/\((!b1)=false->∃(P1:LP)(P2:LM),P1 [iv 0] w1/\∀n1 w2,P1 [iv n1] w2->(n1<(↑s.size:Int)->0<=n1/\n1<(↑s.size:Int)/\ag Zz 170 #[int u8 (cW s n1)] w2 fun e2 w3 =>
 ∃b2,e2=returned (bv b2)/\KpL [] w2 w3/\((!b2)=true->R (returned (bv false)) w3)/\((!b2)=false->ar i64 (n1+1)/\P1 [iv (n1+1)] w3/\P2 [iv (n1+1)] w3<P2 [iv n1] w2))/\(¬n1<(↑s.size:Int)->R (returned (bv true)) w2)))/\((12:Int)<(↑s.size:Int)->R (returned (bv false)) w))/\((↑s.size:Int)<(1:Int)->R (returned (bv false)) w)):Calls Zz 139 #[string s] w R :=
 fz { loops:=[⟨4,[3],[2]++rg 18 11,[]⟩] } [av (.string s)] Tryz.func139 h
theorem ub{xa0:Option Addr}{xn0 xc0:Nat}{xa1:Option Addr}{xn1 xc1:Nat}{xa2:Option Addr}{xn2 xc2:Nat}
 (h :
 ∀k1,w.heap.size<=k1->∀w1,KpL [] w w1->ag Zz 171 #[slice xa0 xn0 xc0,slice xa1 xn1 xc1] w1 fun e1 w2 =>
 ∃n1,e1=returned (iv n1)/\KpL [] w1 w2/\(n1≠0->R (returned (iv n1)) w2)/\(¬n1≠0->((4096:Int)<(↑xn2:Int)->R (returned (iv 9)) w2)/\(¬(4096:Int)<(↑xn2:Int)->∃(P1:LP)(P2:LM),P1 [iv 0] w2/\∀n2 w3,P1 [iv n2] w3->(n2<(↑xn2:Int)->Ad xa2 n2 xn2 fun d1=>∃a1 k2 k3 a2 k4 k5,ao w3 (d1.add (n2.toNat*2)) [slice a1 k2 k3,slice a2 k4 k5]/\∀w4,KpL [] w3 w4->ag Zz 172 (#[slice xa0 xn0 xc0,slice xa1 xn1 xc1,agg #[slice a1 k2 k3,slice a2 k4 k5]]) w4 fun e2 w5 =>
 ∃n3,e2=returned (iv n3)/\KpL [] w4 w5/\(n3≠0->R (returned (iv n3)) w5)/\(¬n3≠0->(n2=0->ar i64 (n2+1)/\P1 [iv (n2+1)] w5/\P2 [iv (n2+1)] w5<P2 [iv n2] w3)/\(¬n2=0->ar i64 (n2 - 1)/\Ad xa2 (n2 - 1) xn2 fun d2=>∃a3 k6 k7,ao w5 ((d2.add ((n2 - 1).toNat*2)).add 0) [slice a3 k6 k7]/\Ad xa2 n2 xn2 fun d3=>∃a4 k8 k9,ao w5 ((d3.add (n2.toNat*2)).add 0) [slice a4 k8 k9]/\∀w6,KpL [] w5 w6->ag Zz 173 #[slice a3 k6 k7,slice a4 k8 k9] w6 fun e3 w7 =>
 ∃n4,e3=returned (iv n4)/\KpL [] w6 w7/\(n4=0->R (returned (iv 5)) w7)/\(¬n4=0->(0<n4->R (returned (iv 2)) w7)/\(¬0<n4->ar i64 (n2+1)/\P1 [iv (n2+1)] w7/\P2 [iv (n2+1)] w7<P2 [iv n2] w3)))))/\(¬n2<(↑xn2:Int)->R (returned (iv 0)) w3)))):Calls Zz 140 #[agg #[slice xa0 xn0 xc0,slice xa1 xn1 xc1,slice xa2 xn2 xc2]] w R :=
 fz { loops:=[⟨7,[4],[2,5,6]++rg 19 40,[]⟩] } [.a (.agg [.v (.slice xa0 xn0 xc0),.v (.slice xa1 xn1 xc1),.v (.slice xa2 xn2 xc2)])] Tryz.func140 h
theorem yA{xa:Option Addr}{xn xc:Nat}{ya:Option Addr}{yn yc:Nat}
 (h :
 ∀k1,w.heap.size<=k1->∀w1,KpL [] w w1->k1<w1.heap.size->Ev Zz (Instr.buildSlice 54 0 #[]) w1 fun y1 w2 =>
 ∃a1 k2 k3,y1=slice a1 k2 k3/\∃l1,KpL l1 w1 w2/\af k1 l1/\Ev Zz (Builtin.append_ #[54,54] 54 #[slice a1 k2 k3,slice xa xn xc]) w2 fun y2 w3 =>
 ∃a2 k4 k5,y2=slice a2 k4 k5/\∃l2,KpL l2 w2 w3/\af k1 l2/\Ev Zz (Instr.buildSlice 55 0 #[]) w3 fun y3 w4 =>
 ∃a3 k6 k7,y3=slice a3 k6 k7/\∃l3,KpL l3 w3 w4/\af k1 l3/\Ev Zz (Builtin.append_ #[55,55] 55 #[slice a3 k6 k7,slice ya yn yc]) w4 fun y4 w5 =>
 ∃a4 k8 k9,y4=slice a4 k8 k9/\∃l4,KpL l4 w4 w5/\af k1 l4/\∀w6,KpL [k1] w5 w6->R (returned (agg #[slice a2 k4 k5,slice a4 k8 k9,slice none 0 0])) w6):Calls Zz 141 #[slice xa xn xc,slice ya yn yc] w R :=
 fz { lt:=true } [av (.slice xa xn xc),av (.slice ya yn yc)] Tryz.func141 h
theorem qg{xa0:Option Addr}{xn0 xc0:Nat}{xa1:Option Addr}{xn1 xc1:Nat}
 (h :
 ∀k1,w.heap.size<=k1->∀k2,w.heap.size<=k2->(∀w1,KpL [] w w1->k1<w1.heap.size->k2<w1.heap.size->Ev Zz (Instr.buildSlice 78 0 #[]) w1 fun y1 w2 =>
 ∃a1 k3 k4,y1=slice a1 k3 k4/\∃l1,KpL l1 w1 w2/\(af k2 l1/\af k1 l1)/\(Ev Zz (Builtin.append_ #[78,78] 78 #[slice a1 k3 k4,slice xa0 xn0 xc0]) w2 fun y2 w3 =>
 ∃a2 k5 k6,y2=slice a2 k5 k6/\∃l2,KpL l2 w2 w3/\(af k2 l2/\af k1 l2)/\(Hb w3 k1 #[slice xa0 xn0 xc0,slice xa1 xn1 xc1] 147->(ao w3 (Addr.mk k1 (0+1) none) [slice xa1 xn1 xc1]/\True)/\Ev Zz (Instr.buildSlice 79 0 #[]) w3 fun y3 w4 =>
 ∃a3 k7 k8,y3=slice a3 k7 k8/\∃l3,KpL l3 w3 w4/\(af k2 l3/\af k1 l3)/\Ev Zz (Builtin.append_ #[79,79] 79 #[slice a3 k7 k8,slice xa1 xn1 xc1]) w4 fun y4 w5 =>
 ∃a4 k9 k10,y4=slice a4 k9 k10/\∃l4,KpL l4 w4 w5/\(af k2 l4/\af k1 l4)/\∀w6,KpL [k2] w5 w6->R (returned (agg #[slice a2 k5 k6,slice a4 k9 k10])) w6))/\Ev Zz (Instr.buildSlice 79 0 #[]) w2 fun y5 w7 =>
 ∃a5 k11 k12,y5=slice a5 k11 k12/\∃l5,KpL l5 w2 w7/\(af k2 l5/\af k1 l5)/\Ev Zz (Builtin.append_ #[78,78] 78 #[slice a1 k3 k4,slice xa0 xn0 xc0]) w7 fun y6 w8 =>
 ∃a6 k13 k14,y6=slice a6 k13 k14/\∃l6,KpL l6 w7 w8/\(af k2 l6/\af k1 l6)/\(Hb w8 k1 #[slice xa0 xn0 xc0,slice xa1 xn1 xc1] 147->(ao w8 (Addr.mk k1 (0+1) none) [slice xa1 xn1 xc1]/\True)/\Ev Zz (Builtin.append_ #[79,79] 79 #[slice a5 k11 k12,slice xa1 xn1 xc1]) w8 fun y7 w9 =>
 ∃a7 k15 k16,y7=slice a7 k15 k16/\∃l7,KpL l7 w8 w9/\(af k2 l7/\af k1 l7)/\∀w10,KpL [k2] w9 w10->R (returned (agg #[slice a6 k13 k14,slice a7 k15 k16])) w10))/\∀w11,KpL [] w w11->k1<w11.heap.size->k2<w11.heap.size->Ev Zz (Instr.buildSlice 79 0 #[]) w11 fun y8 w12 =>
 ∃a8 k17 k18,y8=slice a8 k17 k18/\∃l8,KpL l8 w11 w12/\(af k2 l8/\af k1 l8)/\Ev Zz (Instr.buildSlice 78 0 #[]) w12 fun y9 w13 =>
 ∃a9 k19 k20,y9=slice a9 k19 k20/\∃l9,KpL l9 w12 w13/\(af k2 l9/\af k1 l9)/\Ev Zz (Builtin.append_ #[78,78] 78 #[slice a9 k19 k20,slice xa0 xn0 xc0]) w13 fun y10 w14 =>
 ∃a10 k21 k22,y10=slice a10 k21 k22/\∃l10,KpL l10 w13 w14/\(af k2 l10/\af k1 l10)/\(Hb w14 k1 #[slice xa0 xn0 xc0,slice xa1 xn1 xc1] 147->(ao w14 (Addr.mk k1 (0+1) none) [slice xa1 xn1 xc1]/\True)/\Ev Zz (Builtin.append_ #[79,79] 79 #[slice a8 k17 k18,slice xa1 xn1 xc1]) w14 fun y11 w15 =>
 ∃a11 k23 k24,y11=slice a11 k23 k24/\∃l11,KpL l11 w14 w15/\(af k2 l11/\af k1 l11)/\∀w16,KpL [k2] w15 w16->R (returned (agg #[slice a10 k21 k22,slice a11 k23 k24])) w16)):Calls Zz 142 #[agg #[slice xa0 xn0 xc0,slice xa1 xn1 xc1]] w R :=
 fz { lt:=true } [.a (.agg [.v (.slice xa0 xn0 xc0),.v (.slice xa1 xn1 xc1)])] Tryz.func142 h
theorem vG{r:Nat}{k:Int}
 (h :
 ∃(P1:LP)(P2:LM),P1 [slice none 0 0,iv 0] w/\∀a1 k1 k2 n1 w1,P1 [slice a1 k1 k2,iv n1] w1->∃a2 k3 k4,ao w1 ((Addr.mk r 0 none).add 1) [slice a2 k3 k4]/\Ad a2 k k3 fun d1=>∃a3 k5 k6,ao w1 (((d1.add (k.toNat*4)).add 1).add 2) [slice a3 k5 k6]/\(n1<(↑k5:Int)->∃a4 k7 k8,ao w1 ((Addr.mk r 0 none).add 1) [slice a4 k7 k8]/\Ad a4 k k7 fun d2=>∃a5 k9 k10,ao w1 (((d2.add (k.toNat*4)).add 1).add 2) [slice a5 k9 k10]/\Ad a5 n1 k9 fun d3=>∃a6 k11 k12 a7 k13 k14,ao w1 (d3.add (n1.toNat*2)) [slice a6 k11 k12,slice a7 k13 k14]/\ag Zz 174 (#[slice a1 k1 k2,agg #[slice a6 k11 k12,slice a7 k13 k14]]) w1 fun e1 w2 =>
 ∃a8 k15 k16,e1=returned (slice a8 k15 k16)/\KpL [] w1 w2/\ar i64 (n1+1)/\P1 [slice a8 k15 k16,iv (n1+1)] w2/\P2 [slice a8 k15 k16,iv (n1+1)] w2<P2 [slice a1 k1 k2,iv n1] w1)/\(¬n1<(↑k5:Int)->∃(P3:LP) (P4:LM),P3 [slice a1 k1 k2,iv 0] w1/\∀a9 k17 k18 n2 w3,P3 [slice a9 k17 k18,iv n2] w3->∃a10 k19 k20,ao w3 ((Addr.mk r 0 none).add 2) [slice a10 k19 k20]/\(n2<(↑k19:Int)->∃(P5:LP),(∃(P6:LP) (P7:LM),P6 [slice a9 k17 k18,iv 0] w3/\∀a11 k21 k22 n3 w4,P6 [slice a11 k21 k22,iv n3] w4->∃a12 k23 k24,ao w4 ((Addr.mk r 0 none).add 2) [slice a12 k23 k24]/\Ad a12 n2 k23 fun d4=>∃a13 k25 k26,ao w4 ((d4.add (n2.toNat*4)).add 3) [slice a13 k25 k26]/\(n3<(↑k25:Int)->∃a14 k27 k28,ao w4 ((Addr.mk r 0 none).add 2) [slice a14 k27 k28]/\Ad a14 n2 k27 fun d5=>∃s1,ao w4 ((d5.add (n2.toNat*4)).add 2) [string s1]/\∃a15 k29 k30,ao w4 ((Addr.mk r 0 none).add 1) [slice a15 k29 k30]/\Ad a15 k k29 fun d6=>∃s2,ao w4 ((d6.add (k.toNat*4)).add 0) [string s2]/\(s1=s2->∃a16 k31 k32,ao w4 ((Addr.mk r 0 none).add 2) [slice a16 k31 k32]/\Ad a16 n2 k31 fun d7=>∃a17 k33 k34,ao w4 ((d7.add (n2.toNat*4)).add 3) [slice a17 k33 k34]/\Ad a17 n3 k33 fun d8=>∃a18 k35 k36,ao w4 ((d8.add (n3.toNat*2)).add 0) [slice a18 k35 k36]/\∀w5,KpL [] w4 w5->ag Zz 174 (#[slice a11 k21 k22,agg #[slice a18 k35 k36,slice none 0 0]]) w5 fun e2 w6 =>
 ∃a19 k37 k38,e2=returned (slice a19 k37 k38)/\KpL [] w5 w6/\ar i64 (n3+1)/\P6 [slice a19 k37 k38,iv (n3+1)] w6/\P7 [slice a19 k37 k38,iv (n3+1)] w6<P7 [slice a11 k21 k22,iv n3] w4)/\(¬s1=s2->∀w7,KpL [] w4 w7->P5 [slice a11 k21 k22] w7))/\(¬n3<(↑k25:Int)->∀w8,KpL [] w4 w8->P5 [slice a11 k21 k22] w8))/\∀a20 k39 k40 w9,P5 [slice a20 k39 k40] w9->ar i64 (n2+1)/\P3 [slice a20 k39 k40,iv (n2+1)] w9/\P4 [slice a20 k39 k40,iv (n2+1)] w9<P4 [slice a9 k17 k18,iv n2] w3)/\(¬n2<(↑k19:Int)->∃(P8:LP) (P9:LM),P8 [slice none 0 0,iv 0] w3/\∀a21 k41 k42 n4 w10,P8 [slice a21 k41 k42,iv n4] w10->(n4<(↑k17:Int)->Ad a9 n4 k17 fun d9=>∃a22 k43 k44,ao w10 ((d9.add (n4.toNat*2)).add 0) [slice a22 k43 k44]/\∀k45,w10.heap.size<=k45->∀w11,KpL [] w10 w11->k45<w11.heap.size->Hb w11 k45 #[slice a22 k43 k44] 78->Ev Zz (Builtin.append_ #[226,226] 226 #[slice a21 k41 k42,sK k45 1 1]) w11 fun y1 w12 =>
 ∃a23 k46 k47,y1=slice a23 k46 k47/\∃l1,KpL l1 w11 w12/\af k45 l1/\ar i64 (n4+1)/\P8 [slice a23 k46 k47,iv (n4+1)] w12/\P9 [slice a23 k46 k47,iv (n4+1)] w12<P9 [slice a21 k41 k42,iv n4] w10)/\(¬n4<(↑k17:Int)->R (returned (slice a21 k41 k42)) w10)))):Calls Zz 143 #[pK r,iv k] w R :=
 fz { loops:=[⟨15,[9,10],rg 95 14,[]⟩,⟨10,[5,8],rg 48 47,[]⟩,⟨7,[5,7],[8]++rg 39 56,[]⟩,⟨3,[5,6],rg 11 28,[]⟩],cuts:=[⟨8,[5],[8]++rg 48 47,[]⟩],lt:=true } [av (pK r),av (iv k)] Tryz.func143 h
theorem xk{r:Nat}{q0:ByteArray}{q1:Int}{q2:ByteArray}{qa3:Option Addr}{qn3 qc3:Nat}
 (h :
 ∀k1,w.heap.size<=k1->∀w1,KpL [] w w1->k1<w1.heap.size->ag Zz 139 #[string q0] w1 fun e1 w2 =>
 ∃b1,e1=returned (bv b1)/\KpL [] w1 w2/\((!b1)=true->R (returned (iv 11)) w2)/\((!b1)=false->(¬q1<0->(1099511627776<q1->R (returned (iv 3)) w2)/\(¬1099511627776<q1->ag Zz 175 #[pK r,string q2] w2 fun e2 w3 =>
 ∃n1,e2=returned (iv n1)/\KpL [] w2 w3/\(n1<0->R (returned (iv 4)) w3)/\(¬n1<0->(¬(↑qn3:Int)<(1:Int)->((16:Int)<(↑qn3:Int)->R (returned (iv 9)) w3)/\(¬(16:Int)<(↑qn3:Int)->∃(P1:LP)(P2:LM),P1 [iv 0] w3/\∀n2 w4,P1 [iv n2] w4->(n2<(↑qn3:Int)->∃a1 k2 k3,ao w4 ((Addr.mk r 0 none).add 1) [slice a1 k2 k3]/\Ad a1 n1 k2 fun d1=>∃a2 k4 k5 a3 k6 k7 a4 k8 k9,ao w4 ((d1.add (n1.toNat*4)).add 1) [slice a2 k4 k5,slice a3 k6 k7,slice a4 k8 k9]/\Ad qa3 n2 qn3 fun d2=>∃a5 k10 k11 a6 k12 k13,ao w4 (d2.add (n2.toNat*2)) [slice a5 k10 k11,slice a6 k12 k13]/\∀w5,KpL [] w4 w5->ag Zz 176 (#[agg #[slice a2 k4 k5,slice a3 k6 k7,slice a4 k8 k9],agg #[slice a5 k10 k11,slice a6 k12 k13]]) w5 fun e3 w6 =>
 ∃n3,e3=returned (iv n3)/\KpL [] w5 w6/\(n3≠0->R (returned (iv n3)) w6)/\(¬n3≠0->ar i64 (n2+1)/\P1 [iv (n2+1)] w6/\P2 [iv (n2+1)] w6<P2 [iv n2] w4))/\(¬n2<(↑qn3:Int)->∃(P3:LP) (P4:LM),P3 [iv 0] w4/\∀n4 w7,P3 [iv n4] w7->(n4<(↑qn3:Int)->∃(P5:LP) (P6:LM),P5 [iv 0] w7/\∀n5 w8,P5 [iv n5] w8->(n5<n4->Ad qa3 n4 qn3 fun d3=>∃a7 k14 k15,ao w8 ((d3.add (n4.toNat*2)).add 0) [slice a7 k14 k15]/\Ad qa3 n5 qn3 fun d4=>∃a8 k16 k17,ao w8 ((d4.add (n5.toNat*2)).add 0) [slice a8 k16 k17]/\∀w9,KpL [] w8 w9->ag Zz 177 #[slice a7 k14 k15,slice a8 k16 k17] w9 fun e4 w10 =>
 ∃b2,e4=returned (bv b2)/\KpL [] w9 w10/\(b2=true->R (returned (iv 5)) w10)/\(b2=false->ar i64 (n5+1)/\P5 [iv (n5+1)] w10/\P6 [iv (n5+1)] w10<P6 [iv n5] w8))/\(¬n5<n4->ar i64 (n4+1)/\P3 [iv (n4+1)] w8/\P4 [iv (n4+1)] w8<P4 [iv n4] w7))/\(¬n4<(↑qn3:Int)->R (returned (iv 0)) w7))))/\((↑qn3:Int)<(1:Int)->R (returned (iv 9)) w3))))/\(q1<0->R (returned (iv 3)) w2))):Calls Zz 144 #[pK r,agg #[string q0,iv q1,string q2,slice qa3 qn3 qc3]] w R :=
 fz { loops:=[⟨20,[9],[4]++rg 69 18,[]⟩,⟨17,[8],[4,9]++rg 62 25,[]⟩,⟨11,[6],[4,7]++rg 38 24,[]⟩],lt:=true } [av (pK r),.a (.agg [.v (.string q0),.v (iv q1),.v (.string q2),.v (.slice qa3 qn3 qc3)])] Tryz.func144 h
theorem u6{q0:ByteArray}{q1:Int}{q2:ByteArray}{qa3:Option Addr}{qn3 qc3:Nat}
 (h :
 ∀k1,w.heap.size<=k1->∀k2,w.heap.size<=k2->∀k3,w.heap.size<=k3->∃(P1:LP)(P2:LM),(∀w1,KpL [] w w1->k1<w1.heap.size->k2<w1.heap.size->k3<w1.heap.size->Hb w1 k3 #[string q0,iv q1,string q2,slice none 0 0] 32->P1 [iv 0,string q0,iv q1,string q2,slice none 0 0] w1)/\∀n1 s1 n2 s2 a1 k4 k5 w2,k1<w2.heap.size->k2<w2.heap.size->k3<w2.heap.size->Hb w2 k3 #[string s1,iv n2,string s2,slice a1 k4 k5] 32->P1 [iv n1,string s1,iv n2,string s2,slice a1 k4 k5] w2->(n1<(↑qn3:Int)->Ad qa3 n1 qn3 fun d1=>∃a2 k6 k7 a3 k8 k9,ao w2 (d1.add (n1.toNat*2)) [slice a2 k6 k7,slice a3 k8 k9]/\ag Zz 142 (#[agg #[slice a2 k6 k7,slice a3 k8 k9]]) w2 fun e1 w3 =>
 ∃a4 k10 k11 a5 k12 k13,e1=returned (agg #[slice a4 k10 k11,slice a5 k12 k13])/\KpL [] w2 w3/\∀k14,w3.heap.size<=k14->∀k15,w3.heap.size<=k15->∀w4,KpL [] w3 w4->k14<w4.heap.size->k15<w4.heap.size->Hb w4 k15 #[slice a4 k10 k11,slice a5 k12 k13] 81->Ev Zz (Builtin.append_ #[30,30] 30 #[slice a1 k4 k5,sK k15 1 1]) w4 fun y1 w5 =>
 ∃a6 k16 k17,y1=slice a6 k16 k17/\∃l1,KpL l1 w4 w5/\(af k15 l1/\af k14 l1/\af k3 l1/\af k2 l1/\af k1 l1)/\ar i64 (n1+1)/\∀w6,KpL [k3] w5 w6->Hb w6 k3 #[string s1,iv n2,string s2,slice a6 k16 k17] 32->P1 [iv (n1+1),string s1,iv n2,string s2,slice a6 k16 k17] w6/\P2 [iv (n1+1),string s1,iv n2,string s2,slice a6 k16 k17] w6<P2 [iv n1,string s1,iv n2,string s2,slice a1 k4 k5] w2)/\(¬n1<(↑qn3:Int)->∀w7,KpL [k2] w2 w7->R (returned (agg #[string s1,iv n2,string s2,slice a1 k4 k5])) w7)):Calls Zz 145 #[agg #[string q0,iv q1,string q2,slice qa3 qn3 qc3]] w R :=
 fz { loops:=[⟨3,[4],[5]++rg 13 19,[3]⟩],lt:=true } [.a (.agg [.v (.string q0),.v (iv q1),.v (.string q2),.v (.slice qa3 qn3 qc3)])] Tryz.func145 h
theorem yC{xa0:Option Addr}{xn0 xc0:Nat}{xa1:Option Addr}{xn1 xc1:Nat}{xa2:Option Addr}{xn2 xc2:Nat}{ya0:Option Addr}{yn0 yc0:Nat}{ya1:Option Addr}{yn1 yc1:Nat}{ya2:Option Addr}{yn2 yc2:Nat}
 (h :
 ∀k1,w.heap.size<=k1->∀k2,w.heap.size<=k2->∀w1,KpL [] w w1->ag Zz 178 #[slice xa0 xn0 xc0,slice ya0 yn0 yc0] w1 fun e1 w2 =>
 ∃b1,e1=returned (bv b1)/\KpL [] w1 w2/\(b1=true->ag Zz 179 #[slice xa1 xn1 xc1,slice ya1 yn1 yc1] w2 fun e2 w3 =>
 ∃b2,e2=returned (bv b2)/\KpL [] w2 w3/\(b2=true->ag Zz 180 #[slice xa2 xn2 xc2,slice ya2 yn2 yc2] w3 fun e3 w4 =>
 ∃b3,e3=returned (bv b3)/\KpL [] w3 w4/\R (returned (bv b3)) w4)/\(b2=false->R (returned (bv false)) w3))/\(b1=false->R (returned (bv false)) w2)):Calls Zz 146 #[agg #[slice xa0 xn0 xc0,slice xa1 xn1 xc1,slice xa2 xn2 xc2],agg #[slice ya0 yn0 yc0,slice ya1 yn1 yc1,slice ya2 yn2 yc2]] w R :=
 fz {} [.a (.agg [.v (.slice xa0 xn0 xc0),.v (.slice xa1 xn1 xc1),.v (.slice xa2 xn2 xc2)]),.a (.agg [.v (.slice ya0 yn0 yc0),.v (.slice ya1 yn1 yc1),.v (.slice ya2 yn2 yc2)])] Tryz.func146 h
theorem BF{r:Nat}{s:ByteArray}{xa:Option Addr}{xn xc:Nat}
 (h :
 ∃(P1:LP)(P2:LM),P1 [iv (-1),slice none 0 0,iv 0] w/\∀n1 a1 k1 k2 n2 w1,P1 [iv n1,slice a1 k1 k2,iv n2] w1->∃a2 k3 k4,ao w1 ((Addr.mk r 0 none).add 2) [slice a2 k3 k4]/\(n2<(↑k3:Int)->∃(P3:LP),(∃(P4:LP),(∃a3 k5 k6,ao w1 ((Addr.mk r 0 none).add 2) [slice a3 k5 k6]/\Ad a3 n2 k5 fun d1=>∃s1,ao w1 ((d1.add (n2.toNat*4)).add 2) [string s1]/\(¬s1≠s->(0<=n1->∃a4 k7 k8,ao w1 ((Addr.mk r 0 none).add 2) [slice a4 k7 k8]/\Ad a4 n2 k7 fun d2=>∃s2 n3 s3 a5 k9 k10,ao w1 (d2.add (n2.toNat*4)) [string s2,iv n3,string s3,slice a5 k9 k10]/\∃a6 k11 k12,ao w1 ((Addr.mk r 0 none).add 2) [slice a6 k11 k12]/\Ad a6 n1 k11 fun d3=>∃s4 n4 s5 a7 k13 k14,ao w1 (d3.add (n1.toNat*4)) [string s4,iv n4,string s5,slice a7 k13 k14]/\∀w2,KpL [] w1 w2->ag Zz 181 (#[agg #[string s2,iv n3,string s3,slice a5 k9 k10],agg #[string s4,iv n4,string s5,slice a7 k13 k14]]) w2 fun e1 w3 =>
 ∃b1,e1=returned (bv b1)/\KpL [] w2 w3/\((!b1)=true->P3 [iv n1,slice a1 k1 k2] w3)/\((!b1)=false->P4 [] w3))/\(¬0<=n1->∀w4,KpL [] w1 w4->P4 [] w4))/\(s1≠s->∀w5,KpL [] w1 w5->P3 [iv n1,slice a1 k1 k2] w5))/\∀w6,P4 [] w6->∃(P5:LP) (P6:LM),P5 [iv n1,slice a1 k1 k2,iv 0] w6/\∀n5 a8 k15 k16 n6 w7,P5 [iv n5,slice a8 k15 k16,iv n6] w7->∃a9 k17 k18,ao w7 ((Addr.mk r 0 none).add 2) [slice a9 k17 k18]/\Ad a9 n2 k17 fun d4=>∃a10 k19 k20,ao w7 ((d4.add (n2.toNat*4)).add 3) [slice a10 k19 k20]/\(n6<(↑k19:Int)->∃a11 k21 k22,ao w7 ((Addr.mk r 0 none).add 2) [slice a11 k21 k22]/\Ad a11 n2 k21 fun d5=>∃a12 k23 k24,ao w7 ((d5.add (n2.toNat*4)).add 3) [slice a12 k23 k24]/\Ad a12 n6 k23 fun d6=>∃a13 k25 k26,ao w7 ((d6.add (n6.toNat*2)).add 0) [slice a13 k25 k26]/\ag Zz 177 #[slice a13 k25 k26,slice xa xn xc] w7 fun e2 w8 =>
 ∃b2,e2=returned (bv b2)/\KpL [] w7 w8/\(b2=true->∃a14 k27 k28,ao w8 ((Addr.mk r 0 none).add 2) [slice a14 k27 k28]/\Ad a14 n2 k27 fun d7=>∃a15 k29 k30,ao w8 ((d7.add (n2.toNat*4)).add 3) [slice a15 k29 k30]/\Ad a15 n6 k29 fun d8=>∃a16 k31 k32,ao w8 ((d8.add (n6.toNat*2)).add 1) [slice a16 k31 k32]/\ar i64 (n6+1)/\∀w9,KpL [] w8 w9->P5 [iv n2,slice a16 k31 k32,iv (n6+1)] w9/\P6 [iv n2,slice a16 k31 k32,iv (n6+1)] w9<P6 [iv n5,slice a8 k15 k16,iv n6] w7)/\(b2=false->ar i64 (n6+1)/\P5 [iv n5,slice a8 k15 k16,iv (n6+1)] w8/\P6 [iv n5,slice a8 k15 k16,iv (n6+1)] w8<P6 [iv n5,slice a8 k15 k16,iv n6] w7))/\(¬n6<(↑k19:Int)->P3 [iv n5,slice a8 k15 k16] w7))/\∀n7 a17 k33 k34 w10,P3 [iv n7,slice a17 k33 k34] w10->ar i64 (n2+1)/\P1 [iv n7,slice a17 k33 k34,iv (n2+1)] w10/\P2 [iv n7,slice a17 k33 k34,iv (n2+1)] w10<P2 [iv n1,slice a1 k1 k2,iv n2] w1)/\(¬n2<(↑k3:Int)->R (returned (tuple #[iv n1,slice a1 k1 k2])) w1)):Calls Zz 147 #[pK r,string s,slice xa xn xc] w R :=
 fz { loops:=[⟨8,[8,9,11],rg 53 40,[]⟩,⟨4,[8,9,10],rg 11 82,[]⟩],cuts:=[⟨5,[8,9],[11]++rg 21 72,[]⟩,⟨7,[],rg 21 32,[]⟩],lt:=true } [av (pK r),av (.string s),av (.slice xa xn xc)] Tryz.func147 h
theorem vC{xa:Option Addr}{xn xc:Nat}{ya:Option Addr}{yn yc:Nat}
 (h :
 ag Zz 182 #[slice xa xn xc,slice ya yn yc] w fun e1 w1 =>
 ∃n1,e1=returned (iv n1)/\KpL [] w w1/\(n1<(↑xn:Int)->Ad xa n1 xn fun d1=>∃a1 k1 k2,ao w1 ((d1.add (n1.toNat*2)).add 0) [slice a1 k1 k2]/\ag Zz 173 #[slice a1 k1 k2,slice ya yn yc] w1 fun e2 w2 =>
 ∃n2,e2=returned (iv n2)/\KpL [] w1 w2/\(n2=0->R (returned (iv n1)) w2)/\(¬n2=0->R (returned (iv (-1))) w2))/\(¬n1<(↑xn:Int)->R (returned (iv (-1))) w1)):Calls Zz 148 #[slice xa xn xc,slice ya yn yc] w R :=
 fz {} [av (.slice xa xn xc),av (.slice ya yn yc)] Tryz.func148 h
theorem tR{xa:Option Addr}{xn xc:Nat}{ya:Option Addr}{yn yc:Nat}
 (h :
 ag Zz 199 #[slice xa xn xc] w fun e1 w1 =>
 ∃n1,e1=returned (iv n1)/\KpL [] w w1/\(n1≠0->R (returned (iv n1)) w1)/\(¬n1≠0->(¬(↑yn:Int)<(1:Int)->((6:Int)<(↑yn:Int)->R (returned (iv 9)) w1)/\(¬(6:Int)<(↑yn:Int)->∃(P1:LP)(P2:LM),P1 [iv 0] w1/\∀n2 w2,P1 [iv n2] w2->(n2<(↑yn:Int)->Ad ya n2 yn fun d1=>∃s1,ao w2 ((d1.add (n2.toNat*2)).add 0) [string s1]/\ag Zz 139 #[string s1] w2 fun e2 w3 =>
 ∃b1,e2=returned (bv b1)/\KpL [] w2 w3/\((!b1)=false->Ad ya n2 yn fun d2=>∃s2,ao w3 ((d2.add (n2.toNat*2)).add 0) [string s2]/\ag Zz 200 #[slice xa xn xc,slice ya yn yc,iv n2,string s2] w3 fun e3 w4 =>
 ∃b2,e3=returned (bv b2)/\KpL [] w3 w4/\(b2=true->R (returned (iv 11)) w4)/\(b2=false->Ad ya n2 yn fun d3=>∃n3,ao w4 ((d3.add (n2.toNat*2)).add 1) [iv n3]/\(¬n3<1->Ad ya n2 yn fun d4=>∃n4,ao w4 ((d4.add (n2.toNat*2)).add 1) [iv n4]/\(4<n4->R (returned (iv 12)) w4)/\(¬4<n4->ar i64 (n2+1)/\P1 [iv (n2+1)] w4/\P2 [iv (n2+1)] w4<P2 [iv n2] w2))/\(n3<1->R (returned (iv 12)) w4)))/\((!b1)=true->R (returned (iv 11)) w3))/\(¬n2<(↑yn:Int)->R (returned (iv 0)) w2)))/\((↑yn:Int)<(1:Int)->R (returned (iv 9)) w1))):Calls Zz 171 #[slice xa xn xc,slice ya yn yc] w R :=
 fz { loops:=[⟨7,[6],[4]++rg 20 38,[]⟩] } [av (.slice xa xn xc),av (.slice ya yn yc)] Tryz.func171 h
theorem B6{xa:Option Addr}{xn xc:Nat}{ya:Option Addr}{yn yc:Nat}{za0:Option Addr}{zn0 zc0:Nat}{za1:Option Addr}{zn1 zc1:Nat}
 (h :
 ∀k1,w.heap.size<=k1->(¬(↑zn0:Int)≠(↑xn:Int)->((↑zn1:Int)≠(↑yn:Int)->∀w1,KpL [] w w1->R (returned (iv 13)) w1)/\(¬(↑zn1:Int)≠(↑yn:Int)->∀w2,KpL [] w w2->ag Zz 201 #[slice xa xn xc,slice za0 zn0 zc0] w2 fun e1 w3 =>
 ∃b1,e1=returned (bv b1)/\KpL [] w2 w3/\((!b1)=true->R (returned (iv 3)) w3)/\((!b1)=false->∃(P1:LP)(P2:LM),P1 [iv 0] w3/\∀n1 w4,P1 [iv n1] w4->(n1<(↑yn:Int)->Ad za1 n1 zn1 fun d1=>∃n2 n3 n4 s1,ao w4 (d1.add (n1.toNat*4)) [iv n2,iv n3,iv n4,string s1]/\Ad ya n1 yn fun d2=>∃n5,ao w4 ((d2.add (n1.toNat*2)).add 1) [iv n5]/\∀w5,KpL [] w4 w5->ag Zz 202 (#[agg #[iv n2,iv n3,iv n4,string s1],iv n5]) w5 fun e2 w6 =>
 ∃b2,e2=returned (bv b2)/\KpL [] w5 w6/\((!b2)=true->R (returned (iv 12)) w6)/\((!b2)=false->ar i64 (n1+1)/\P1 [iv (n1+1)] w6/\P2 [iv (n1+1)] w6<P2 [iv n1] w4))/\(¬n1<(↑yn:Int)->R (returned (iv 0)) w4))))/\((↑zn0:Int)≠(↑xn:Int)->∀w7,KpL [] w w7->R (returned (iv 13)) w7)):Calls Zz 172 #[slice xa xn xc,slice ya yn yc,agg #[slice za0 zn0 zc0,slice za1 zn1 zc1]] w R :=
 fz { loops:=[⟨6,[7],[6]++rg 27 18,[]⟩] } [av (.slice xa xn xc),av (.slice ya yn yc),.a (.agg [.v (.slice za0 zn0 zc0),.v (.slice za1 zn1 zc1)])] Tryz.func172 h
theorem sJ{xa:Option Addr}{xn xc:Nat}{ya:Option Addr}{yn yc:Nat}
 (h :
 ∃(P1:LP)(P2:LM),P1 [iv 0] w/\∀n1 w1,P1 [iv n1] w1->(n1<(↑xn:Int)->(n1<(↑yn:Int)->Ad xa n1 xn fun d1=>∃n2,ao w1 (d1.add (n1.toNat*1)) [iv n2]/\Ad ya n1 yn fun d2=>∃n3,ao w1 (d2.add (n1.toNat*1)) [iv n3]/\(n2<n3->∀w2,KpL [] w1 w2->R (returned (iv (-1))) w2)/\(¬n2<n3->Ad xa n1 xn fun d3=>∃n4,ao w1 (d3.add (n1.toNat*1)) [iv n4]/\Ad ya n1 yn fun d4=>∃n5,ao w1 (d4.add (n1.toNat*1)) [iv n5]/\(n5<n4->∀w3,KpL [] w1 w3->R (returned (iv 1)) w3)/\(¬n5<n4->ar i64 (n1+1)/\∀w4,KpL [] w1 w4->P1 [iv (n1+1)] w4/\P2 [iv (n1+1)] w4<P2 [iv n1] w1)))/\(¬n1<(↑yn:Int)->((↑xn:Int)<(↑yn:Int)->R (returned (iv (-1))) w1)/\(¬(↑xn:Int)<(↑yn:Int)->((↑yn:Int)<(↑xn:Int)->R (returned (iv 1)) w1)/\(¬(↑yn:Int)<(↑xn:Int)->R (returned (iv 0)) w1))))/\(¬n1<(↑xn:Int)->((↑xn:Int)<(↑yn:Int)->R (returned (iv (-1))) w1)/\(¬(↑xn:Int)<(↑yn:Int)->((↑yn:Int)<(↑xn:Int)->R (returned (iv 1)) w1)/\(¬(↑yn:Int)<(↑xn:Int)->R (returned (iv 0)) w1)))):Calls Zz 173 #[slice xa xn xc,slice ya yn yc] w R :=
 fz { loops:=[⟨2,[5],[4]++rg 6 30,[]⟩] } [av (.slice xa xn xc),av (.slice ya yn yc)] Tryz.func173 h
theorem BB{xa:Option Addr}{xn xc:Nat}{za0:Option Addr}{zn0 zc0:Nat}{za1:Option Addr}{zn1 zc1:Nat}
 (h :
 ∀k1,w.heap.size<=k1->∀w1,KpL [] w w1->k1<w1.heap.size->ag Zz 182 #[slice xa xn xc,slice za0 zn0 zc0] w1 fun e1 w2 =>
 ∃n1,e1=returned (iv n1)/\KpL [] w1 w2/\∃(P1:LP),((n1<(↑xn:Int)->Ad xa n1 xn fun d1=>∃a1 k2 k3,ao w2 ((d1.add (n1.toNat*2)).add 0) [slice a1 k2 k3]/\∀w3,KpL [] w2 w3->ag Zz 173 #[slice a1 k2 k3,slice za0 zn0 zc0] w3 fun e2 w4 =>
 ∃n2,e2=returned (iv n2)/\KpL [] w3 w4/\(n2=0->Ev Zz (Instr.buildSlice 56 0 #[]) w4 fun y1 w5 =>
 ∃a2 k4 k5,y1=slice a2 k4 k5/\∃l1,KpL l1 w4 w5/\af k1 l1/\Ev Zz (Builtin.append_ #[56,56] 56 #[slice a2 k4 k5,slice xa xn xc]) w5 fun y2 w6 =>
 ∃a3 k6 k7,y2=slice a3 k6 k7/\∃l2,KpL l2 w5 w6/\af k1 l2/\Ad a3 n1 k6 fun d2=>(∃(l3:List Value),ao w6 (d2.add (n1.toNat*2)) l3/\l3.length=2)/\aq w6 (d2.add (n1.toNat*2)) 2/\af k1 [(d2.add (n1.toNat*2)).block]/\∀w7,w7=bL w6 (d2.add (n1.toNat*2)) [slice za0 zn0 zc0,slice za1 zn1 zc1] 0->R (returned (slice a3 k6 k7)) w7)/\(¬n2=0->P1 [] w4))/\(¬n1<(↑xn:Int)->∀w8,KpL [] w2 w8->P1 [] w8))/\∀w9,P1 [] w9->Ev Zz (Instr.buildSlice 56 0 #[]) w9 fun y3 w10 =>
 ∃a4 k8 k9,y3=slice a4 k8 k9/\∃l4,KpL l4 w9 w10/\af k1 l4/\∃a5 k10 k11,Pv Zz (Instr.sliceAt 56 (slice xa xn xc) none (some (iv n1)) none) (slice a5 k10 k11)/\Ev Zz (Builtin.append_ #[56,56] 56 #[slice a4 k8 k9,slice a5 k10 k11]) w10 fun y4 w11 =>
 ∃a6 k12 k13,y4=slice a6 k12 k13/\∃l5,KpL l5 w10 w11/\af k1 l5/\∀k14,w11.heap.size<=k14->∀w12,KpL [] w11 w12->k14<w12.heap.size->Hb w12 k14 #[slice za0 zn0 zc0,slice za1 zn1 zc1] 147->Ev Zz (Builtin.append_ #[56,56] 56 #[slice a6 k12 k13,sK k14 1 1]) w12 fun y5 w13 =>
 ∃a7 k15 k16,y5=slice a7 k15 k16/\∃l6,KpL l6 w12 w13/\(af k14 l6/\af k1 l6)/\∃a8 k17 k18,Pv Zz (Instr.sliceAt 56 (slice xa xn xc) (some (iv n1)) none none) (slice a8 k17 k18)/\Ev Zz (Builtin.append_ #[56,56] 56 #[slice a7 k15 k16,slice a8 k17 k18]) w13 fun y6 w14 =>
 ∃a9 k19 k20,y6=slice a9 k19 k20/\∃l7,KpL l7 w13 w14/\(af k14 l7/\af k1 l7)/\R (returned (slice a9 k19 k20)) w14):Calls Zz 174 #[slice xa xn xc,agg #[slice za0 zn0 zc0,slice za1 zn1 zc1]] w R :=
 fz { cuts:=[⟨6,[],[4,6]++rg 12 23,[]⟩],lt:=true } [av (.slice xa xn xc),.a (.agg [.v (.slice za0 zn0 zc0),.v (.slice za1 zn1 zc1)])] Tryz.func174 h
theorem x7{r:Nat}{s:ByteArray}
 (h :
 ∃(P1:LP)(P2:LM),P1 [iv 0] w/\∀n1 w1,P1 [iv n1] w1->∃a1 k1 k2,ao w1 ((Addr.mk r 0 none).add 1) [slice a1 k1 k2]/\(n1<(↑k1:Int)->∃a2 k3 k4,ao w1 ((Addr.mk r 0 none).add 1) [slice a2 k3 k4]/\Ad a2 n1 k3 fun d1=>∃s1,ao w1 ((d1.add (n1.toNat*4)).add 0) [string s1]/\(s1=s->R (returned (iv n1)) w1)/\(¬s1=s->ar i64 (n1+1)/\P1 [iv (n1+1)] w1/\P2 [iv (n1+1)] w1<P2 [iv n1] w1))/\(¬n1<(↑k1:Int)->R (returned (iv (-1))) w1)):Calls Zz 175 #[pK r,string s] w R :=
 fz { loops:=[⟨2,[5],[4]++rg 6 20,[]⟩] } [av (pK r),av (.string s)] Tryz.func175 h
theorem tV{xa0:Option Addr}{xn0 xc0:Nat}{xa1:Option Addr}{xn1 xc1:Nat}{xa2:Option Addr}{xn2 xc2:Nat}{za0:Option Addr}{zn0 zc0:Nat}{za1:Option Addr}{zn1 zc1:Nat}
 (h :
 ∀k1,w.heap.size<=k1->∀k2,w.heap.size<=k2->∃(P1:LP),(∀w1,KpL [] w w1->(¬(↑zn0:Int)≠(↑xn0:Int)->((↑zn1:Int)≠(0:Int)->((↑zn1:Int)≠(↑xn1:Int)->R (returned (iv 13)) w1)/\(¬(↑zn1:Int)≠(↑xn1:Int)->P1 [] w1))/\(¬(↑zn1:Int)≠(0:Int)->P1 [] w1))/\((↑zn0:Int)≠(↑xn0:Int)->R (returned (iv 13)) w1))/\∀w2,P1 [] w2->ag Zz 201 #[slice xa0 xn0 xc0,slice za0 zn0 zc0] w2 fun e1 w3 =>
 ∃b1,e1=returned (bv b1)/\KpL [] w2 w3/\((!b1)=true->R (returned (iv 3)) w3)/\((!b1)=false->((↑zn1:Int)=(0:Int)->R (returned (iv 0)) w3)/\(¬(↑zn1:Int)=(0:Int)->ag Zz 172 (#[slice xa0 xn0 xc0,slice xa1 xn1 xc1,agg #[slice za0 zn0 zc0,slice za1 zn1 zc1]]) w3 fun e2 w4 =>
 ∃n1,e2=returned (iv n1)/\KpL [] w3 w4/\R (returned (iv n1)) w4))):Calls Zz 176 #[agg #[slice xa0 xn0 xc0,slice xa1 xn1 xc1,slice xa2 xn2 xc2],agg #[slice za0 zn0 zc0,slice za1 zn1 zc1]] w R :=
 fz { cuts:=[⟨3,[],rg 4 23,[]⟩] } [.a (.agg [.v (.slice xa0 xn0 xc0),.v (.slice xa1 xn1 xc1),.v (.slice xa2 xn2 xc2)]),.a (.agg [.v (.slice za0 zn0 zc0),.v (.slice za1 zn1 zc1)])] Tryz.func176 h
theorem qp{xa:Option Addr}{xn xc:Nat}{ya:Option Addr}{yn yc:Nat}
 (h :
 ((↑xn:Int)≠(↑yn:Int)->R (returned (bv false)) w)/\(¬(↑xn:Int)≠(↑yn:Int)->∃(P1:LP)(P2:LM),P1 [iv 0] w/\∀n1 w1,P1 [iv n1] w1->(n1<(↑xn:Int)->Ad xa n1 xn fun d1=>∃n2,ao w1 (d1.add (n1.toNat*1)) [iv n2]/\Ad ya n1 yn fun d2=>∃n3,ao w1 (d2.add (n1.toNat*1)) [iv n3]/\(n2≠n3->∀w2,KpL [] w1 w2->R (returned (bv false)) w2)/\(¬n2≠n3->ar i64 (n1+1)/\∀w3,KpL [] w1 w3->P1 [iv (n1+1)] w3/\P2 [iv (n1+1)] w3<P2 [iv n1] w1))/\(¬n1<(↑xn:Int)->R (returned (bv true)) w1))):Calls Zz 177 #[slice xa xn xc,slice ya yn yc] w R :=
 fz { loops:=[⟨4,[5],[4]++rg 11 15,[]⟩] } [av (.slice xa xn xc),av (.slice ya yn yc)] Tryz.func177 h
theorem qN{xa:Option Addr}{xn xc:Nat}{ya:Option Addr}{yn yc:Nat}
 (h :
 ((↑xn:Int)≠(↑yn:Int)->R (returned (bv false)) w)/\(¬(↑xn:Int)≠(↑yn:Int)->∃(P1:LP)(P2:LM),P1 [iv 0] w/\∀n1 w1,P1 [iv n1] w1->(n1<(↑xn:Int)->Ad xa n1 xn fun d1=>∃s1 n2 n3,ao w1 (d1.add (n1.toNat*3)) [string s1,iv n2,iv n3]/\Ad ya n1 yn fun d2=>∃s2 n4 n5,ao w1 (d2.add (n1.toNat*3)) [string s2,iv n4,iv n5]/\∃b1,Pv Zz
 (do
 eqGuard BinOp.neq 153 (Operand.tmp 20) (Operand.tmp 24) (agg #[string s1,iv n2,iv n3]) (agg #[string s2,iv n4,iv n5])
 binOp BinOp.neq 153 (agg #[string s1,iv n2,iv n3]) (agg #[string s2,iv n4,iv n5]))
 (bv b1)/\(b1=true->∀w2,KpL [] w1 w2->R (returned (bv false)) w2)/\(b1=false->ar i64 (n1+1)/\∀w3,KpL [] w1 w3->P1 [iv (n1+1)] w3/\P2 [iv (n1+1)] w3<P2 [iv n1] w1))/\(¬n1<(↑xn:Int)->R (returned (bv true)) w1))):Calls Zz 178 #[slice xa xn xc,slice ya yn yc] w R :=
 fz { loops:=[⟨4,[5],[4]++rg 11 15,[]⟩] } [av (.slice xa xn xc),av (.slice ya yn yc)] Tryz.func178 h
theorem oR{xa:Option Addr}{xn xc:Nat}{ya:Option Addr}{yn yc:Nat}
 (h :
 ((↑xn:Int)≠(↑yn:Int)->R (returned (bv false)) w)/\(¬(↑xn:Int)≠(↑yn:Int)->∃(P1:LP)(P2:LM),P1 [iv 0] w/\∀n1 w1,P1 [iv n1] w1->(n1<(↑xn:Int)->Ad xa n1 xn fun d1=>∃s1 n2,ao w1 (d1.add (n1.toNat*2)) [string s1,iv n2]/\Ad ya n1 yn fun d2=>∃s2 n3,ao w1 (d2.add (n1.toNat*2)) [string s2,iv n3]/\∃b1,Pv Zz
 (do
 eqGuard BinOp.neq 156 (Operand.tmp 20) (Operand.tmp 24) (agg #[string s1,iv n2]) (agg #[string s2,iv n3])
 binOp BinOp.neq 156 (agg #[string s1,iv n2]) (agg #[string s2,iv n3]))
 (bv b1)/\(b1=true->∀w2,KpL [] w1 w2->R (returned (bv false)) w2)/\(b1=false->ar i64 (n1+1)/\∀w3,KpL [] w1 w3->P1 [iv (n1+1)] w3/\P2 [iv (n1+1)] w3<P2 [iv n1] w1))/\(¬n1<(↑xn:Int)->R (returned (bv true)) w1))):Calls Zz 179 #[slice xa xn xc,slice ya yn yc] w R :=
 fz { loops:=[⟨4,[5],[4]++rg 11 15,[]⟩] } [av (.slice xa xn xc),av (.slice ya yn yc)] Tryz.func179 h
theorem oI{xa:Option Addr}{xn xc:Nat}{ya:Option Addr}{yn yc:Nat}
 (h :
 ((↑xn:Int)≠(↑yn:Int)->R (returned (bv false)) w)/\(¬(↑xn:Int)≠(↑yn:Int)->∃(P1:LP)(P2:LM),P1 [iv 0] w/\∀n1 w1,P1 [iv n1] w1->(n1<(↑xn:Int)->Ad xa n1 xn fun d1=>∃a1 k1 k2,ao w1 ((d1.add (n1.toNat*2)).add 0) [slice a1 k1 k2]/\Ad ya n1 yn fun d2=>∃a2 k3 k4,ao w1 ((d2.add (n1.toNat*2)).add 0) [slice a2 k3 k4]/\∀w2,KpL [] w1 w2->ag Zz 177 #[slice a1 k1 k2,slice a2 k3 k4] w2 fun e1 w3 =>
 ∃b1,e1=returned (bv b1)/\KpL [] w2 w3/\((!b1)=false->Ad xa n1 xn fun d3=>∃a3 k5 k6,ao w3 ((d3.add (n1.toNat*2)).add 1) [slice a3 k5 k6]/\Ad ya n1 yn fun d4=>∃a4 k7 k8,ao w3 ((d4.add (n1.toNat*2)).add 1) [slice a4 k7 k8]/\ag Zz 203 #[slice a3 k5 k6,slice a4 k7 k8] w3 fun e2 w4 =>
 ∃b2,e2=returned (bv b2)/\KpL [] w3 w4/\((!b2)=true->R (returned (bv false)) w4)/\((!b2)=false->ar i64 (n1+1)/\P1 [iv (n1+1)] w4/\P2 [iv (n1+1)] w4<P2 [iv n1] w1))/\((!b1)=true->R (returned (bv false)) w3))/\(¬n1<(↑xn:Int)->R (returned (bv true)) w1))):Calls Zz 180 #[slice xa xn xc,slice ya yn yc] w R :=
 fz { loops:=[⟨4,[5],[4]++rg 11 32,[]⟩] } [av (.slice xa xn xc),av (.slice ya yn yc)] Tryz.func180 h
theorem yO{g0:ByteArray}{g1:Int}{g2:ByteArray}{ga3:Option Addr}{gn3 gc3:Nat}{p0:ByteArray}{p1:Int}{p2:ByteArray}{pa3:Option Addr}{pn3 pc3:Nat}
 (h :
 ∀k1,w.heap.size<=k1->∀k2,w.heap.size<=k2->(¬p1<g1->(g1=p1->∀w1,KpL [] w w1->R (returned (bv !(Op.bytesLess g0.toList p0.toList || g0.toList == p0.toList))) w1)/\(¬g1=p1->∀w2,KpL [] w w2->R (returned (bv false)) w2))/\(p1<g1->∀w3,KpL [] w w3->R (returned (bv true)) w3)):Calls Zz 181 #[agg #[string g0,iv g1,string g2,slice ga3 gn3 gc3],agg #[string p0,iv p1,string p2,slice pa3 pn3 pc3]] w R :=
 fz {} [.a (.agg [.v (.string g0),.v (iv g1),.v (.string g2),.v (.slice ga3 gn3 gc3)]),.a (.agg [.v (.string p0),.v (iv p1),.v (.string p2),.v (.slice pa3 pn3 pc3)])] Tryz.func181 h
theorem xQ{xa:Option Addr}{xn xc:Nat}{ya:Option Addr}{yn yc:Nat}
 (h :
 ∃(P1:LP)(P2:LM),P1 [iv (0:Int),iv (↑xn:Int)] w/\∀n1 n2 w1,P1 [iv n1,iv n2] w1->(n1<n2->ar i64 (n1+n2)/\(2:Int)≠(0:Int)/\Ad xa (i64.wrap ((n1+n2).tdiv 2)) xn fun d1=>∃a1 k1 k2,ao w1 ((d1.add ((i64.wrap ((n1+n2).tdiv 2)).toNat*2)).add 0) [slice a1 k1 k2]/\ag Zz 173 #[slice a1 k1 k2,slice ya yn yc] w1 fun e1 w2 =>
 ∃n3,e1=returned (iv n3)/\KpL [] w1 w2/\(n3<0->ar i64 (i64.wrap ((n1+n2).tdiv 2)+1)/\P1 [iv (i64.wrap ((n1+n2).tdiv 2)+1),iv n2] w2/\P2 [iv (i64.wrap ((n1+n2).tdiv 2)+1),iv n2] w2<P2 [iv n1,iv n2] w1)/\(¬n3<0->P1 [iv n1,iv (i64.wrap ((n1+n2).tdiv 2))] w2/\P2 [iv n1,iv (i64.wrap ((n1+n2).tdiv 2))] w2<P2 [iv n1,iv n2] w1))/\(¬n1<n2->R (returned (iv n1)) w1)):Calls Zz 182 #[slice xa xn xc,slice ya yn yc] w R :=
 fz { loops:=[⟨2,[5,6],[7]++rg 10 18,[]⟩] } [av (.slice xa xn xc),av (.slice ya yn yc)] Tryz.func182 h
theorem zN{xa:Option Addr}{xn xc:Nat}
 (h :
 (¬(↑xn:Int)<(1:Int)->((4:Int)<(↑xn:Int)->R (returned (iv 13)) w)/\(¬(4:Int)<(↑xn:Int)->∃(P1:LP)(P2:LM),P1 [iv 0] w/\∀n1 w1,P1 [iv n1] w1->(n1<(↑xn:Int)->Ad xa n1 xn fun d1=>∃s1,ao w1 ((d1.add (n1.toNat*3)).add 0) [string s1]/\ag Zz 139 #[string s1] w1 fun e1 w2 =>
 ∃b1,e1=returned (bv b1)/\KpL [] w1 w2/\((!b1)=true->R (returned (iv 11)) w2)/\((!b1)=false->∃(P3:LP) (P4:LM),P3 [iv 0] w2/\∀n2 w3,P3 [iv n2] w3->(n2<n1->Ad xa n2 xn fun d2=>∃s2,ao w3 ((d2.add (n2.toNat*3)).add 0) [string s2]/\Ad xa n1 xn fun d3=>∃s3,ao w3 ((d3.add (n1.toNat*3)).add 0) [string s3]/\(s2=s3->∀w4,KpL [] w3 w4->R (returned (iv 11)) w4)/\(¬s2=s3->ar i64 (n2+1)/\∀w5,KpL [] w3 w5->P3 [iv (n2+1)] w5/\P4 [iv (n2+1)] w5<P4 [iv n2] w3))/\(¬n2<n1->Ad xa n1 xn fun d4=>∃s4 n3 n4,ao w3 (d4.add (n1.toNat*3)) [string s4,iv n3,iv n4]/\ag Zz 212 (#[agg #[string s4,iv n3,iv n4]]) w3 fun e2 w6 =>
 ∃b2,e2=returned (bv b2)/\KpL [] w3 w6/\((!b2)=true->R (returned (iv 3)) w6)/\((!b2)=false->ar i64 (n1+1)/\P1 [iv (n1+1)] w6/\P2 [iv (n1+1)] w6<P2 [iv n1] w1))))/\(¬n1<(↑xn:Int)->R (returned (iv 0)) w1)))/\((↑xn:Int)<(1:Int)->R (returned (iv 13)) w)):Calls Zz 199 #[slice xa xn xc] w R :=
 fz { loops:=[⟨9,[4],[2]++rg 26 16,[]⟩,⟨4,[3],[2,4]++rg 13 35,[]⟩] } [av (.slice xa xn xc)] Tryz.func199 h
theorem xj{xa:Option Addr}{xn xc:Nat}{ya:Option Addr}{yn yc:Nat}{n:Int}{s:ByteArray}
 (h :
 ∃(P1:LP)(P2:LM),P1 [iv 0] w/\∀n1 w1,P1 [iv n1] w1->(n1<(↑xn:Int)->Ad xa n1 xn fun d1=>∃s1,ao w1 ((d1.add (n1.toNat*3)).add 0) [string s1]/\(s1=s->R (returned (bv true)) w1)/\(¬s1=s->ar i64 (n1+1)/\P1 [iv (n1+1)] w1/\P2 [iv (n1+1)] w1<P2 [iv n1] w1))/\(¬n1<(↑xn:Int)->∃(P3:LP) (P4:LM),P3 [iv 0] w1/\∀n2 w2,P3 [iv n2] w2->(n2<n->Ad ya n2 yn fun d2=>∃s2,ao w2 ((d2.add (n2.toNat*2)).add 0) [string s2]/\(s2=s->R (returned (bv true)) w2)/\(¬s2=s->ar i64 (n2+1)/\P3 [iv (n2+1)] w2/\P4 [iv (n2+1)] w2<P4 [iv n2] w2))/\(¬n2<n->R (returned (bv false)) w2))):Calls Zz 200 #[slice xa xn xc,slice ya yn yc,iv n,string s] w R :=
 fz { loops:=[⟨7,[10],[8]++rg 24 12,[]⟩,⟨2,[9],[8]++rg 11 13,[]⟩] } [av (.slice xa xn xc),av (.slice ya yn yc),av (iv n),av (.string s)] Tryz.func200 h
theorem DX{xa:Option Addr}{xn xc:Nat}{ya:Option Addr}{yn yc:Nat}
 (h :
 ((↑yn:Int)≠(↑xn:Int)->R (returned (bv false)) w)/\(¬(↑yn:Int)≠(↑xn:Int)->∃(P1:LP)(P2:LM),P1 [iv 0] w/\∀n1 w1,P1 [iv n1] w1->(n1<(↑xn:Int)->Ad ya n1 yn fun d1=>∃n2,ao w1 (d1.add (n1.toNat*1)) [iv n2]/\Ad xa n1 xn fun d2=>∃n3,ao w1 ((d2.add (n1.toNat*3)).add 1) [iv n3]/\(¬n2<n3->Ad ya n1 yn fun d3=>∃n4,ao w1 (d3.add (n1.toNat*1)) [iv n4]/\Ad xa n1 xn fun d4=>∃s1 n5 n6,ao w1 (d4.add (n1.toNat*3)) [string s1,iv n5,iv n6]/\∀w2,KpL [] w1 w2->ag Zz 213 (#[agg #[string s1,iv n5,iv n6]]) w2 fun e1 w3 =>
 ∃n7,e1=returned (iv n7)/\KpL [] w2 w3/\(n7<n4->R (returned (bv false)) w3)/\(¬n7<n4->ar i64 (n1+1)/\P1 [iv (n1+1)] w3/\P2 [iv (n1+1)] w3<P2 [iv n1] w1))/\(n2<n3->∀w4,KpL [] w1 w4->R (returned (bv false)) w4))/\(¬n1<(↑xn:Int)->R (returned (bv true)) w1))):Calls Zz 201 #[slice xa xn xc,slice ya yn yc] w R :=
 fz { loops:=[⟨4,[5],[4]++rg 11 28,[]⟩] } [av (.slice xa xn xc),av (.slice ya yn yc)] Tryz.func201 h
theorem Aj{v0:Int}{v1:Int}{v2:Int}{v3:ByteArray}{t:Int}
 (h :
 ∀k1,w.heap.size<=k1->∀w1,KpL [] w w1->ag Zz 214 (#[agg #[iv v0,iv v1,iv v2,string v3]]) w1 fun e1 w2 =>
 ∃n1,e1=returned (iv n1)/\KpL [] w1 w2/\(¬n1≠0->(¬t<1->(4<t->R (returned (bv false)) w2)/\(¬4<t->(v0=0->R (returned (bv true)) w2)/\(¬v0=0->(v0=1->R (returned (bv (decide (t=1)))) w2)/\(¬v0=1->(v0=2->(¬t=3->(t=2->R (returned (bv (decide (v2=1)))) w2)/\(¬t=2->R (returned (bv false)) w2))/\(t=3->R (returned (bv true)) w2))/\(¬v0=2->R (returned (bv (decide (t=4)))) w2)))))/\(t<1->R (returned (bv false)) w2))/\(n1≠0->R (returned (bv false)) w2)):Calls Zz 202 #[agg #[iv v0,iv v1,iv v2,string v3],iv t] w R :=
 fz {} [.a (.agg [.v (iv v0),.v (iv v1),.v (iv v2),.v (.string v3)]),av (iv t)] Tryz.func202 h
theorem ql{xa:Option Addr}{xn xc:Nat}{ya:Option Addr}{yn yc:Nat}
 (h :
 ((↑xn:Int)≠(↑yn:Int)->R (returned (bv false)) w)/\(¬(↑xn:Int)≠(↑yn:Int)->∃(P1:LP)(P2:LM),P1 [iv 0] w/\∀n1 w1,P1 [iv n1] w1->(n1<(↑xn:Int)->Ad xa n1 xn fun d1=>∃n2 n3 n4 s1,ao w1 (d1.add (n1.toNat*4)) [iv n2,iv n3,iv n4,string s1]/\Ad ya n1 yn fun d2=>∃n5 n6 n7 s2,ao w1 (d2.add (n1.toNat*4)) [iv n5,iv n6,iv n7,string s2]/\∃b1,Pv Zz
 (do
 eqGuard BinOp.neq 161 (Operand.tmp 20) (Operand.tmp 24) (agg #[iv n2,iv n3,iv n4,string s1]) (agg #[iv n5,iv n6,iv n7,string s2])
 binOp BinOp.neq 161 (agg #[iv n2,iv n3,iv n4,string s1]) (agg #[iv n5,iv n6,iv n7,string s2]))
 (bv b1)/\(b1=true->∀w2,KpL [] w1 w2->R (returned (bv false)) w2)/\(b1=false->ar i64 (n1+1)/\∀w3,KpL [] w1 w3->P1 [iv (n1+1)] w3/\P2 [iv (n1+1)] w3<P2 [iv n1] w1))/\(¬n1<(↑xn:Int)->R (returned (bv true)) w1))):Calls Zz 203 #[slice xa xn xc,slice ya yn yc] w R :=
 fz { loops:=[⟨4,[5],[4]++rg 11 15,[]⟩] } [av (.slice xa xn xc),av (.slice ya yn yc)] Tryz.func203 h
theorem vj{g0:ByteArray}{g1:Int}{g2:Int}
 (h :
 ∀k1,w.heap.size<=k1->(-1073741824<=g1->(g1<=1073741824->(g1<=g2->∀w1,KpL [] w w1->R (returned (bv (decide (g2<=1073741825)))) w1)/\(¬g1<=g2->∀w2,KpL [] w w2->R (returned (bv false)) w2))/\(¬g1<=1073741824->∀w3,KpL [] w w3->R (returned (bv false)) w3))/\(¬-1073741824<=g1->∀w4,KpL [] w w4->R (returned (bv false)) w4)):Calls Zz 212 #[agg #[string g0,iv g1,iv g2]] w R :=
 fz {} [.a (.agg [.v (.string g0),.v (iv g1),.v (iv g2)])] Tryz.func212 h
theorem zf{g0:ByteArray}{g1:Int}{g2:Int}
 (h :
 ∀k1,w.heap.size<=k1->∃n1,Pv Zz (Builtin.min_ #[3,3] 3 #[iv g2,iv 1073741824]) (iv n1)/\∀w1,KpL [] w w1->R (returned (iv n1)) w1):Calls Zz 213 #[agg #[string g0,iv g1,iv g2]] w R :=
 fz {} [.a (.agg [.v (.string g0),.v (iv g1),.v (iv g2)])] Tryz.func213 h
theorem vE{v0:Int}{v1:Int}{v2:Int}{v3:ByteArray}
 (h :
 ∀k1,w.heap.size<=k1->∃(P1:LP),(∀w1,KpL [] w w1->(v0=0->(1<=v1->(v1<=255->(v2=0->P1 [bv (decide (v3=ByteArray.mk #[]))] w1)/\(¬v2=0->P1 [bv false] w1))/\(¬v1<=255->P1 [bv false] w1))/\(¬1<=v1->P1 [bv false] w1))/\(¬v0=0->(v0=1->(¬v1=0->(v1=1->(v2=0->P1 [bv (decide (v3=ByteArray.mk #[]))] w1)/\(¬v2=0->P1 [bv false] w1))/\(¬v1=1->P1 [bv false] w1))/\(v1=0->(v2=0->P1 [bv (decide (v3=ByteArray.mk #[]))] w1)/\(¬v2=0->P1 [bv false] w1)))/\(¬v0=1->(v0=2->(1<=v2->(v2<=1099511627776->(-1099511627776<=v1->(v1<=1099511627776->(v3=ByteArray.mk #[]->∀w2,KpL [] w1 w2->ag Zz 219 #[iv v1] w2 fun e1 w3 =>
 ∃a1 k2 k3,e1=returned (slice a1 k2 k3)/\KpL [] w2 w3/\ag Zz 219 #[iv v2] w3 fun e2 w4 =>
 ∃a2 k4 k5,e2=returned (slice a2 k4 k5)/\KpL [] w3 w4/\ag Zz 218 #[slice a1 k2 k3,slice a2 k4 k5] w4 fun e3 w5 =>
 ∃a3 k6 k7,e3=returned (slice a3 k6 k7)/\KpL [] w4 w5/\ag Zz 220 #[int u64 1] w5 fun e4 w6 =>
 ∃a4 k8 k9,e4=returned (slice a4 k8 k9)/\KpL [] w5 w6/\ag Zz 217 #[slice a3 k6 k7,slice a4 k8 k9] w6 fun e5 w7 =>
 ∃n1,e5=returned (iv n1)/\KpL [] w6 w7/\P1 [bv (decide (n1=0))] w7)/\(¬v3=ByteArray.mk #[]->∀w8,KpL [] w1 w8->P1 [bv false] w8))/\(¬v1<=1099511627776->∀w9,KpL [] w1 w9->P1 [bv false] w9))/\(¬-1099511627776<=v1->∀w10,KpL [] w1 w10->P1 [bv false] w10))/\(¬v2<=1099511627776->∀w11,KpL [] w1 w11->P1 [bv false] w11))/\(¬1<=v2->∀w12,KpL [] w1 w12->P1 [bv false] w12))/\(¬v0=2->(v0=3->∃(P2:LP),((v1=0->(v2=0->P2 [bv (decide ((↑v3.size:Int)<=(16:Int)))] w1)/\(¬v2=0->P2 [bv false] w1))/\(¬v1=0->P2 [bv false] w1))/\∀b1 w13,P2 [bv b1] w13->∃(P3:LP) (P4:LM),P3 [bv b1,iv 0] w13/\∀b2 n2 w14,P3 [bv b2,iv n2] w14->(n2<(↑v3.size:Int)->(b2=true->0<=n2/\n2<(↑v3.size:Int)/\(32<=cW v3 n2->0<=n2/\n2<(↑v3.size:Int)/\ar i64 (n2+1)/\P3 [bv (decide (cW v3 n2<=126)),iv (n2+1)] w14/\P4 [bv (decide (cW v3 n2<=126)),iv (n2+1)] w14<P4 [bv b2,iv n2] w14)/\(¬32<=cW v3 n2->ar i64 (n2+1)/\P3 [bv false,iv (n2+1)] w14/\P4 [bv false,iv (n2+1)] w14<P4 [bv b2,iv n2] w14))/\(b2=false->ar i64 (n2+1)/\P3 [bv false,iv (n2+1)] w14/\P4 [bv false,iv (n2+1)] w14<P4 [bv b2,iv n2] w14))/\(¬n2<(↑v3.size:Int)->P1 [bv b2] w14))/\(¬v0=3->P1 [bv false] w1)))))/\∀b3 w15,P1 [bv b3] w15->(b3=true->R (returned (iv 0)) w15)/\(b3=false->R (returned (iv 2)) w15)):Calls Zz 214 #[agg #[iv v0,iv v1,iv v2,string v3]] w R :=
 fz { loops:=[⟨12,[3,4],rg 100 22,[]⟩],cuts:=[⟨15,[3],rg 4 118,[]⟩,⟨11,[3],rg 86 14,[]⟩] } [.a (.agg [.v (iv v0),.v (iv v1),.v (iv v2),.v (.string v3)])] Tryz.func214 h
theorem si{xa:Option Addr}{xn xc:Nat}{ya:Option Addr}{yn yc:Nat}
 (h :
 ((↑xn:Int)≠(↑yn:Int)->((↑xn:Int)<(↑yn:Int)->R (returned (iv (-1))) w)/\(¬(↑xn:Int)<(↑yn:Int)->R (returned (iv 1)) w))/\(¬(↑xn:Int)≠(↑yn:Int)->ar i64 ((↑xn:Int) - (1:Int))/\∃(P1:LP)(P2:LM),P1 [iv ((↑xn:Int) - (1:Int))] w/\∀n1 w1,P1 [iv n1] w1->(0<=n1->Ad xa n1 xn fun d1=>∃n2,ao w1 (d1.add (n1.toNat*1)) [int u32 n2]/\Ad ya n1 yn fun d2=>∃n3,ao w1 (d2.add (n1.toNat*1)) [int u32 n3]/\(n2<n3->∀w2,KpL [] w1 w2->R (returned (iv (-1))) w2)/\(¬n2<n3->Ad xa n1 xn fun d3=>∃n4,ao w1 (d3.add (n1.toNat*1)) [int u32 n4]/\Ad ya n1 yn fun d4=>∃n5,ao w1 (d4.add (n1.toNat*1)) [int u32 n5]/\(n5<n4->∀w3,KpL [] w1 w3->R (returned (iv 1)) w3)/\(¬n5<n4->ar i64 (n1 - 1)/\∀w4,KpL [] w1 w4->P1 [iv (n1 - 1)] w4/\P2 [iv (n1 - 1)] w4<P2 [iv n1] w1)))/\(¬0<=n1->R (returned (iv 0)) w1))):Calls Zz 217 #[slice xa xn xc,slice ya yn yc] w R :=
 fz { loops:=[⟨6,[5],[4]++rg 19 22,[]⟩] } [av (.slice xa xn xc),av (.slice ya yn yc)] Tryz.func217 h
theorem ul{xa:Option Addr}{xn xc:Nat}{ya:Option Addr}{yn yc:Nat}
 (h :
 ∃(P1:LP)(P2:LM),P1 [slice xa xn xc,slice ya yn yc] w/\∀a1 k1 k2 a2 k3 k4 w1,P1 [slice a1 k1 k2,slice a2 k3 k4] w1->((0:Int)<(↑k3:Int)->ag Zz 222 #[slice a1 k1 k2,slice a2 k3 k4] w1 fun e1 w2 =>
 ∃a3 k5 k6 a4 k7 k8,e1=returned (tuple #[slice a3 k5 k6,slice a4 k7 k8])/\KpL [] w1 w2/\P1 [slice a2 k3 k4,slice a4 k7 k8] w2/\P2 [slice a2 k3 k4,slice a4 k7 k8] w2<P2 [slice a1 k1 k2,slice a2 k3 k4] w1)/\(¬(0:Int)<(↑k3:Int)->R (returned (slice a1 k1 k2)) w1)):Calls Zz 218 #[slice xa xn xc,slice ya yn yc] w R :=
 fz { loops:=[⟨1,[0,1],rg 5 13,[]⟩] } [av (.slice xa xn xc),av (.slice ya yn yc)] Tryz.func218 h
theorem AU{n:Int}
 (h :
 (n<0->ag Zz 220 #[int u64 (u64.wrap (0 - u64.wrap n))] w fun e1 w1 =>
 ∃a1 k1 k2,e1=returned (slice a1 k1 k2)/\KpL [] w w1/\R (returned (slice a1 k1 k2)) w1)/\(¬n<0->ag Zz 220 #[int u64 (u64.wrap n)] w fun e2 w2 =>
 ∃a2 k3 k4,e2=returned (slice a2 k3 k4)/\KpL [] w w2/\R (returned (slice a2 k3 k4)) w2)):Calls Zz 219 #[iv n] w R :=
 fz {} [av (iv n)] Tryz.func219 h
theorem rA{n:Int}
 (h :
 ∃(P1:LP)(P2:LM),P1 [int u64 n,slice none 0 0] w/\∀n1 a1 k1 k2 w1,P1 [int u64 n1,slice a1 k1 k2] w1->(0<n1->(1000000000:Int)≠(0:Int)/\∀k3,w1.heap.size<=k3->∀w2,KpL [] w1 w2->Hb w2 k3 #[int u32 (u32.wrap (n1.tmod 1000000000))] 265->Ev Zz (Builtin.append_ #[284,284] 284 #[slice a1 k1 k2,sK k3 1 1]) w2 fun y1 w3 =>
 ∃a2 k4 k5,y1=slice a2 k4 k5/\∃l1,KpL l1 w2 w3/\af k3 l1/\(1000000000:Int)≠(0:Int)/\P1 [int u64 (u64.wrap (n1.tdiv 1000000000)),slice a2 k4 k5] w3/\P2 [int u64 (u64.wrap (n1.tdiv 1000000000)),slice a2 k4 k5] w3<P2 [int u64 n1,slice a1 k1 k2] w1)/\(¬0<n1->R (returned (slice a1 k1 k2)) w1)):Calls Zz 220 #[int u64 n] w R :=
 fz { loops:=[⟨2,[0,3],rg 4 10,[]⟩] } [av (.int .u64 n)] Tryz.func220 h
theorem Ah{xa:Option Addr}{xn xc:Nat}{ya:Option Addr}{yn yc:Nat}
 (h :
 ((↑xn:Int)<=(2:Int)->((↑yn:Int)<=(2:Int)->ag Zz 223 #[slice xa xn xc] w fun e1 w1 =>
 ∃n1,e1=returned (int u64 n1)/\KpL [] w w1/\ag Zz 223 #[slice ya yn yc] w1 fun e2 w2 =>
 ∃n2,e2=returned (int u64 n2)/\KpL [] w1 w2/\n2≠0/\ag Zz 220 #[int u64 (u64.wrap (n1.tdiv n2))] w2 fun e3 w3 =>
 ∃a1 k1 k2,e3=returned (slice a1 k1 k2)/\KpL [] w2 w3/\ag Zz 223 #[slice xa xn xc] w3 fun e4 w4 =>
 ∃n3,e4=returned (int u64 n3)/\KpL [] w3 w4/\ag Zz 223 #[slice ya yn yc] w4 fun e5 w5 =>
 ∃n4,e5=returned (int u64 n4)/\KpL [] w4 w5/\n4≠0/\ag Zz 220 #[int u64 (n3.tmod n4)] w5 fun e6 w6 =>
 ∃a2 k3 k4,e6=returned (slice a2 k3 k4)/\KpL [] w5 w6/\R (returned (tuple #[slice a1 k1 k2,slice a2 k3 k4])) w6)/\(¬(↑yn:Int)<=(2:Int)->False))/\(¬(↑xn:Int)<=(2:Int)->False)):Calls Zz 222 #[slice xa xn xc,slice ya yn yc] w R :=
 fz { dead:=[3] } [av (.slice xa xn xc),av (.slice ya yn yc)] Tryz.func222 h
theorem yu{xa:Option Addr}{xn xc:Nat}
 (h :
 ag Zz 227 #[slice xa xn xc,iv 0] w fun e1 w1 =>
 ∃n1,e1=returned (int u64 n1)/\KpL [] w w1/\ag Zz 227 #[slice xa xn xc,iv 1] w1 fun e2 w2 =>
 ∃n2,e2=returned (int u64 n2)/\KpL [] w1 w2/\R (returned (int u64 (u64.wrap (n1+u64.wrap (1000000000*n2))))) w2):Calls Zz 223 #[slice xa xn xc] w R :=
 fz {} [av (.slice xa xn xc)] Tryz.func223 h
theorem xf{xa:Option Addr}{xn xc:Nat}{n:Int}
 (h :
 (n<(↑xn:Int)->Ad xa n xn fun d1=>∃n1,ao w (d1.add (n.toNat*1)) [int u32 n1]/\ar u64 n1/\R (returned (int u64 n1)) w)/\(¬n<(↑xn:Int)->R (returned (int u64 0)) w)):Calls Zz 227 #[slice xa xn xc,iv n] w R :=
 fz {} [av (.slice xa xn xc),av (iv n)] Tryz.func227 h
end
end Go.Vc
namespace Go.Vc
open Go Go.Proofs
def dg:Nat->Nat->List Int
 |0,_=>[]
 |f+1,n=>if n=0 then [] else ((n%1000000000:Nat):Int)::dg f (n / 1000000000)
abbrev Dg(w:World)(n:Nat)(v:Value):Prop:=R (au (tI .u32)) [] w (dg 2 n) [v]
theorem zB(n:Nat):(n=0/\dg 2 n=[])∨(0<n/\n<1000000000/\dg 2 n=[(n:Int)])∨(1000000000<=n/\dg 2 n=[((n%1000000000:Nat):Int),((n / 1000000000%1000000000:Nat):Int)]):=by
 by_cases h:n=0
 ·exact .inl ⟨h,by rw[h];rfl⟩
 refine .inr ?_
 have e:dg 2 n=((n%1000000000:Nat):Int)::(if n / 1000000000=0 then [] else [((n / 1000000000%1000000000:Nat):Int)]):=by rw[dg,if_neg h,dg,dg]
 by_cases h1:n<1000000000
 ·exact .inl ⟨by omega,h1,by rw[e,if_pos (by omega),Nat.mod_eq_of_lt h1]⟩
 ·exact .inr ⟨by omega,by rw[e,if_neg (by omega)]⟩
theorem ma{n:Nat}(h:n<10 ^ 18):(dg 2 n).getD 0 0+1000000000*(dg 2 n).getD 1 0=n/\(dg 2 n).length<=2/\(∀i,0<=(dg 2 n).getD i 0/\(dg 2 n).getD i 0<1000000000)/\((dg 2 n).length=0↔n=0):=by
 rcases zB n with ⟨h1,e⟩|⟨h0,h1,e⟩|⟨h1,e⟩<;>rw[e]
 ·exact⟨by simp[h1],by simp,fun i=>by simp,by simp[h1]⟩
 ·refine⟨by simp,by simp,fun i=>?_,by simp;omega⟩
  cases i<;>simp
  omega
 ·refine⟨by simp only[List.getD_cons_zero,List.getD_cons_succ];omega,by simp,fun i=>?_,by simp;omega⟩
  rcases i with _|_|i<;>simp<;>omega
theorem A5{m n:Nat}(hm:m<10 ^ 18)(hn:n<10 ^ 18)(h:dg 2 m=dg 2 n):m=n:=by
 have h1:=(ma hm).1
 have h2:=(ma hn).1
 rw[h]at h1
 omega
theorem FN:oe Zz 284 284 265 1 4:=bM (by kernel_rfl)
theorem qt{n:Int}:ar .u32 n↔0<=n/\n<=4294967295:=⟨fun h=>⟨h.lo,h.hi⟩,fun h=>⟨h.1,h.2⟩⟩
theorem eK{n:Nat}(h:n<10 ^ 18)(w:World):Calls Zz 220 #[.int .u64 n] w fun e w'=>∃a m c,e=.returned (.slice a m c)/\KpL [] w w'/\Dg w' n (.slice a m c):=by
 refine rA ⟨fun vs w'=>∃(m f:Nat) (out:List Int) (a:Option Addr) (k c:Nat),vs=[.int .u64 (m:Int),.slice a k c]/\m<1000000000 ^ f/\m<=n/\out.length+f=2/\out++dg f m=dg 2 n/\aZ (tI .u32) [] w none out a k c w',
  fun vs _=>match vs with|.int _ m::_=>m.toNat|_=>0,⟨n,2,[],none,0,0,rfl,h,Nat.le_refl _,rfl,rfl,bI.nil' _ (by simp),KpL.refl _ _,by simp[aj]⟩,?_⟩
 rintro n1 a1 k1 k2 w1 ⟨m,f,out,_,_,_,hv,hm,hmn,hl,he,hC⟩
 simp only[List.cons.injEq,Value.int.injEq,Value.slice.injEq,true_and,and_true]at hv
 obtain⟨rfl,rfl,rfl,rfl⟩:=hv
 have hlA:=hC.acc.len
 subst hlA
 constructor
 ·intro hlt
  obtain⟨f,rfl⟩:∃g,f=g+1:=⟨f - 1,by
   rcases f with _|f
   ·simp at hm;omega
   ·rfl⟩
  have e1:Int.tmod (m:Int) 1000000000=((m%1000000000:Nat):Int):=by rw[Int.tmod_eq_emod_of_nonneg (by omega)];omega
  have e2:Int.tdiv (m:Int) 1000000000=((m / 1000000000:Nat):Int):=by rw[Int.tdiv_eq_ediv_of_nonneg (by omega)];omega
  rw[dg,if_neg (by omega)]at he
  rw[e1,e2,aE (qt.2 (by omega)),aE (k:=.u64) (n:=((m / 1000000000:Nat):Int)) (aJ.2 (by omega))]
  refine⟨by omega,fun k3 hk3 w2 hw2 hkn=>?_⟩
  have hA:=hC.kp0 hw2
  refine aD FN hA.acc hkn (x:=((m%1000000000:Nat):Int)) (R.int (qt.2 (by omega))) (by omega) fun a' c' w3 hC3=>⟨_,_,_,rfl,_,hC3.kp,⟨fun hm'=>by have:=(hC.acc.blk_lt _ hm').1;omega⟩,by omega,⟨m / 1000000000,f,_,a',_,c',rfl,?_,by omega,?_,?_,hA.trans hC3⟩,?_⟩
  ·rw[Nat.pow_succ]at hm
   omega
  ·simp;omega
  ·rw[List.append_assoc];exact he
  ·dsimp only;omega
 ·intro hge
  have hm0:m=0:=by omega
  subst hm0
  have:dg f 0=[]:=by cases f<;>rfl
  rw[this,List.append_nil]at he
  refine⟨_,_,_,rfl,hC.kpn,?_⟩
  unfold Dg
  rw[<-he]
  exact hC.acc.done (by have:az=140737488355328:=rfl;omega)
theorem sx{n:Int}(h : -1099511627776<=n/\n<=1099511627776)(w:World):Calls Zz 219 #[iv n] w fun e w'=>∃a m c,e=.returned (.slice a m c)/\KpL [] w w'/\Dg w' n.natAbs (.slice a m c):=by
 refine AU ⟨fun hn=>?_,fun hn=>?_⟩
 ·have e:IntKind.u64.wrap (0 - IntKind.u64.wrap n)=(n.natAbs:Int):=by
   have e1:IntKind.u64.wrap n=n%18446744073709551616:=rfl
   have e2:IntKind.u64.wrap (0 - n%18446744073709551616)=(0 - n%18446744073709551616)%18446744073709551616:=rfl
   rw[e1,e2]
   omega
  rw[e]
  exact⟨(eK (by omega) w).mono (by rintro e w1 ⟨a,m,c,rfl,hk,hR⟩;exact⟨_,_,_,rfl,hk,_,_,_,rfl,hk,hR⟩)⟩
 ·rw[show IntKind.u64.wrap n=(n.natAbs:Int) from by rw[aE (aJ.2 (by omega))];omega]
  exact⟨(eK (by omega) w).mono (by rintro e w1 ⟨a,m,c,rfl,hk,hR⟩;exact⟨_,_,_,rfl,hk,_,_,_,rfl,hk,hR⟩)⟩
theorem pv{M:List Nat}{w:World}{xs:List Int}{a:Option Addr}{n c:Nat}(hx:R (au (tI .u32)) M w xs [.slice a n c])(i:Nat):Calls Zz 227 #[.slice a n c,iv i] w (aA (.int .u64 (xs.getD i 0)) w):=by
 obtain⟨rfl,_,_⟩:=hx.sl_len
 refine xf ⟨fun hlt=>?_,fun hge=>?_⟩
 ·have g:i<xs.length:=by omega
  obtain⟨ad,cs,rfl,hv1,hld1,_,_⟩:=hx.sl_get g
  obtain⟨rfl,hi⟩:=hv1.intD
  have:=qt.1 hi
  rw[List.getD_eq_getElem?_getD,List.getElem?_eq_getElem g]
  exact⟨ad,rfl,by omega,hlt,_,hld1,aJ.2 (by omega),rfl,KpL.refl _ _⟩
 ·rw[List.getD_eq_getElem?_getD,List.getElem?_eq_none (by omega)]
  exact⟨rfl,KpL.refl _ _⟩
theorem jb{w:World}{x:Nat}(h:x<10 ^ 18){a:Option Addr}{n c:Nat}(hx:Dg w x (.slice a n c)):Calls Zz 223 #[.slice a n c] w (aA (.int .u64 x) w):=by
 obtain⟨h1,_,h2,_⟩:=ma h
 have g0:=h2 0
 have g1:=h2 1
 refine yu ⟨(pv hx 0).mono ?_⟩
 rintro e w1 ⟨rfl,hk1⟩
 refine⟨_,rfl,hk1,⟨(pv (hx.kp0 hk1) 1).mono ?_⟩⟩
 rintro e w2 ⟨rfl,hk2⟩
 refine⟨_,rfl,hk2,?_,hk1.trans hk2⟩
 rw[aE (k:=.u64) (n:=1000000000*_) (aJ.2 (by omega)),aE (aJ.2 (by omega)),h1]
theorem Aw{w:World}{x y:Nat}(hx:x<10 ^ 18)(hy:y<10 ^ 18)(h0:0<y){a b:Option Addr}{n c m q:Nat}(hX:Dg w x (.slice a n c))(hY:Dg w y (.slice b m q)):
 Calls Zz 222 #[.slice a n c,.slice b m q] w fun e w'=>∃a1 n1 c1 a2 n2 c2,e=.returned (.tuple #[.slice a1 n1 c1,.slice a2 n2 c2])/\KpL [] w w'/\Dg w' (x / y) (.slice a1 n1 c1)/\Dg w' (x%y) (.slice a2 n2 c2):=by
 have l1:=(ma hx).2.1
 have l2:=(ma hy).2.1
 obtain⟨e1,_,_⟩:=hX.sl_len
 obtain⟨e2,_,_⟩:=hY.sl_len
 have hyx:x / y<=x:=Nat.div_le_self _ _
 have hyr:x%y<y:=Nat.mod_lt _ h0
 have hwq:ar .u64 ((x / y:Nat):Int):=by generalize x / y=z at hyx;exact aJ.2 (by omega)
 refine Ah ⟨fun _=>⟨fun _=>⟨(jb hx hX).mono ?_⟩,fun hc=>by omega⟩,fun hc=>by omega⟩
 rintro e w1 ⟨rfl,hk1⟩
 refine⟨_,rfl,hk1,⟨(jb hy (hY.kp0 hk1)).mono ?_⟩⟩
 rintro e w2 ⟨rfl,hk2⟩
 have ed:Int.tdiv (x:Int) y=((x / y:Nat):Int):=by rw[Int.tdiv_eq_ediv_of_nonneg (by omega),Int.natCast_ediv]
 have em:Int.tmod (x:Int) y=((x%y:Nat):Int):=by rw[Int.tmod_eq_emod_of_nonneg (by omega),Int.natCast_emod]
 have hk02:=hk1.trans hk2
 refine⟨_,rfl,hk2,by omega,?_⟩
 rw[ed,aE hwq]
 refine⟨(eK (n:=x / y) (by omega) w2).mono ?_⟩
 rintro e w3 ⟨a1,m1,c1,rfl,hk3,hR1⟩
 have hk03:=hk02.trans hk3
 refine⟨_,_,_,rfl,hk3,⟨(jb hx (hX.kp0 hk03)).mono ?_⟩⟩
 rintro e w4 ⟨rfl,hk4⟩
 have hk04:=hk03.trans hk4
 refine⟨_,rfl,hk4,⟨(jb hy (hY.kp0 hk04)).mono ?_⟩⟩
 rintro e w5 ⟨rfl,hk5⟩
 refine⟨_,rfl,hk5,by omega,?_⟩
 rw[em]
 refine⟨(eK (n:=x%y) (by omega) w5).mono ?_⟩
 rintro e w6 ⟨a2,m2,c2,rfl,hk6,hR2⟩
 exact⟨_,_,_,rfl,hk6,_,_,_,_,_,_,rfl,(hk04.trans hk5).trans hk6,((hR1.kp0 hk4).kp0 hk5).kp0 hk6,hR2⟩
theorem R.uniqI{k:IntKind}{M M':List Nat}{w:World}{xs ys:List Int}{v:Value}(hx:R (au (tI k)) M w xs [v])(hy:R (au (tI k)) M' w ys [v]):xs=ys:=by
 obtain⟨a,c,e⟩:=hx.sl_form
 simp only[List.cons.injEq,and_true]at e
 subst e
 obtain⟨hl,_,_⟩:=hy.sl_len
 refine List.ext_getElem hl fun i h1 h2=>?_
 obtain⟨ad,cs,rfl,hv1,hl1,_,_⟩:=hx.sl_get h1
 obtain⟨rfl,_⟩:=hv1.intD
 obtain⟨ad2,cs2,e2,hv2,hl2,_,_⟩:=hy.sl_get h2
 obtain⟨rfl,_⟩:=hv2.intD
 simp only[Option.some.injEq]at e2
 subst e2
 have e3:=(hl1.at_ 0 _ rfl).symm.trans (hl2.at_ 0 _ rfl)
 simpa using e3
open Classical in
noncomputable def BW (w:World) (v:Value):Nat:=if h:∃b,b<10 ^ 18/\Dg w b v then h.choose else 0
theorem sG{w:World}{v:Value}{b:Nat}(hb:b<10 ^ 18)(h:Dg w b v):BW w v=b:=by
 have hx:∃b,b<10 ^ 18/\Dg w b v:=⟨b,hb,h⟩
 unfold BW
 rw[dif_pos hx]
 obtain⟨h1,h2⟩:=hx.choose_spec
 exact A5 h1 hb (h2.uniqI h)
theorem u7{w:World}{x y:Nat}(hx:x<10 ^ 18)(hy:y<10 ^ 18){a b:Option Addr}{n c m q:Nat}(hX:Dg w x (.slice a n c))(hY:Dg w y (.slice b m q)):
 Calls Zz 218 #[.slice a n c,.slice b m q] w fun e w'=>∃a1 n1 c1,e=.returned (.slice a1 n1 c1)/\KpL [] w w'/\Dg w' (Nat.gcd x y) (.slice a1 n1 c1)/\Nat.gcd x y<10 ^ 18:=by
 refine ul ⟨fun vs w'=>∃s t u v,vs=[u,v]/\KpL [] w w'/\s<10 ^ 18/\t<10 ^ 18/\Dg w' s u/\Dg w' t v/\Nat.gcd s t=Nat.gcd x y,fun vs w'=>match vs with|[_,v]=>BW w' v|_=>0,
  ⟨x,y,_,_,rfl,KpL.refl _ _,hx,hy,hX,hY,rfl⟩,?_⟩
 rintro a1 k1 k2 a2 k3 k4 w1 ⟨s,t,_,_,hv,hk,hs,ht,hS,hT,hg⟩
 simp only[List.cons.injEq,and_true]at hv
 obtain⟨rfl,rfl⟩:=hv
 obtain⟨e1,_,_⟩:=hT.sl_len
 have hz:=(ma ht).2.2.2
 constructor
 ·intro hlt
  have t0:0<t:=by omega
  have hr:=Nat.mod_lt s t0
  refine⟨(Aw hs ht t0 hS hT).mono ?_⟩
  rintro e w2 ⟨b1,n1,c1,b2,n2,c2,rfl,hk2,h1,h2⟩
  have hrb:s%t<10 ^ 18:=by omega
  refine⟨_,_,_,_,_,_,rfl,hk2,⟨t,s%t,_,_,rfl,hk.trans hk2,ht,hrb,hT.kp0 hk2,h2,?_⟩,?_⟩
  ·rw[<-hg,Nat.gcd_comm t,<-Nat.gcd_rec,Nat.gcd_comm]
  ·dsimp only
   rw[sG hrb h2,sG ht hT]
   exact hr
 ·intro hge
  have t0:t=0:=by omega
  subst t0
  rw[Nat.gcd_zero_right]at hg
  subst hg
  exact⟨_,_,_,rfl,hk,hS,hs⟩
theorem sT{M M':List Nat}{w:World}{xs ys:List Int}{a b:Option Addr}{n c m q:Nat}(hx:R (au (tI .u32)) M w xs [.slice a n c])(hy:R (au (tI .u32)) M' w ys [.slice b m q]):
 Calls Zz 217 #[.slice a n c,.slice b m q] w fun e w'=>KpL [] w w'/\∃r,e=.returned (iv r)/\(r=0↔xs=ys):=by
 obtain⟨rfl,hn1,hn2⟩:=hx.sl_len
 obtain⟨rfl,hm1,hm2⟩:=hy.sl_len
 have hmx:az=140737488355328:=rfl
 have no:∀{r:Int} {w':World},KpL [] w w'->r≠0->xs≠ys->KpL [] w w'/\∃r',Ending.returned (iv r)=.returned (iv r')/\(r'=0↔xs=ys):=fun hk h1 h2=>⟨hk,_,rfl,fun h=>absurd h h1,fun h=>absurd h h2⟩
 refine si ⟨fun hne=>?_,fun he=>?_⟩
 ·have:xs≠ys:=by rintro rfl;exact hne rfl
  exact⟨fun _=>no (KpL.refl _ _) (by omega) this,fun _=>no (KpL.refl _ _) (by omega) this⟩
 have hl:xs.length=ys.length:=by omega
 refine⟨ae.2 (by omega),fun vs w'=>∃i:Nat,vs=[iv ((i:Int) - 1)]/\i<=xs.length/\KpL [] w w'/\xs.drop i=ys.drop i,fun vs _=>match vs with|[.int _ i]=>(i+1).toNat|_=>0,⟨xs.length,rfl,Nat.le_refl _,KpL.refl _ _,by rw[List.drop_length,hl,List.drop_length]⟩,?_⟩
 rintro n1 w1 ⟨i,hv,hi,hk,hd⟩
 obtain rfl:=v1 hv
 constructor
 ·intro hlt
  obtain⟨j,rfl⟩:∃j,i=j+1:=⟨i - 1,by omega⟩
  have ej:(((j+1:Nat):Int) - 1).toNat=j:=by omega
  have h1:j<xs.length:=by omega
  have h2:j<ys.length:=by omega
  obtain⟨ad,cs,rfl,hv1,hld1,_,_⟩:=(hx.kp0 hk).sl_get h1
  obtain⟨rfl,_⟩:=hv1.intD
  obtain⟨ad2,cs2,rfl,hv2,hld2,_,_⟩:=(hy.kp0 hk).sl_get h2
  obtain⟨rfl,_⟩:=hv2.intD
  rw[ej]
  refine⟨ad,rfl,by omega,by omega,_,hld1,ad2,rfl,by omega,by omega,_,hld2,fun hl w2 hw2=>no (hk.trans hw2) (by omega) (dU h1 h2 (by omega)),fun hl=>⟨ad,rfl,by omega,by omega,_,hld1,ad2,rfl,by omega,by omega,_,hld2,fun hl2 w2 hw2=>no (hk.trans hw2) (by omega) (dU h1 h2 (by omega)),fun hl2=>⟨ae.2 (by omega),fun w4 hw4=>⟨⟨j,by simp,by omega,hk.trans hw4,?_⟩,by dsimp only;omega⟩⟩⟩⟩
  rw[List.drop_eq_getElem_cons h1,List.drop_eq_getElem_cons h2,hd,show xs[j]=ys[j] from by omega]
 ·intro hge
  have i0:i=0:=by omega
  subst i0
  exact⟨hk,_,rfl,by simpa using hd⟩
theorem jT{s:ByteArray}{i:Nat}(hi:i<s.size):cW s i=(cB s)[i]'(by rw[bo];exact hi):=by
 rw[om s i hi]
 unfold cW
 congr 2
 cases s with|mk d =>
 have hd:i<d.size:=hi
 simp[List.getD_eq_getElem?_getD,hd]
theorem ur{l:List Int}{i:Nat}(hi:i<l.length):fY (l.take (i+1))=(fY (l.take i)&&(decide (32<=l[i])&&decide (l[i]<=126))):=by
 rw[<-List.take_append_getElem hi]
 unfold fY
 rw[List.all_append]
 simp
theorem ue(v:Vl)(hs:v.s.size<=az)(w:World):Calls Zz 214 #[v.agg] w (aA (iv (if v.right=true then 0 else 2)) w):=by
 have hmx:az=140737488355328:=rfl
 have fl:∀{w':World} {b:Bool},b=v.right->KpL [] w w'->([Value.bool b]=[.bool v.right]/\KpL [] w w'):=by
  rintro w' b rfl hk;exact⟨rfl,hk⟩
 have ep:v.plain=(decide (v.d=0)&&decide (v.s=ByteArray.mk #[])):=rfl
 refine vE fun k1 hk1=>⟨fun vs w'=>vs=[.bool v.right]/\KpL [] w w',fun w1 hw1=>⟨fun h0=>?_,fun h0=>⟨fun h1=>?_,fun h1=>⟨fun h2=>?_,fun h2=>⟨fun h3=>?_,fun h3=>fl ?_ hw1⟩⟩⟩⟩,?_⟩
 ·have e0:v.right=(v.plain&&(decide (1<=v.n)&&decide (v.n<=255))):=by unfold Vl.right;rw[if_pos h0]
  rw[ep]at e0
  exact⟨fun g1=>⟨fun g2=>⟨fun g3=>fl (by rw[e0];simp[g1,g2,g3]) hw1,fun g3=>fl (by rw[e0];simp[g3]) hw1⟩,fun g2=>fl (by rw[e0];simp[g2]) hw1⟩,fun g1=>fl (by rw[e0];simp[g1]) hw1⟩
 ·have e0:v.right=(v.plain&&(decide (v.n=0) || decide (v.n=1))):=by unfold Vl.right;rw[if_neg h0,if_pos h1]
  rw[ep]at e0
  exact⟨fun g0=>⟨fun g1=>⟨fun g3=>fl (by rw[e0];simp[g1,g3]) hw1,fun g3=>fl (by rw[e0];simp[g3]) hw1⟩,fun g1=>fl (by rw[e0];simp[g0,g1]) hw1⟩,fun g1=>⟨fun g3=>fl (by rw[e0];simp[g1,g3]) hw1,fun g3=>fl (by rw[e0];simp[g3]) hw1⟩⟩
 ·have e0:v.right=(decide (v.s=ByteArray.mk #[])&&(decide (1<=v.d)&&(decide (v.d<=1099511627776)&&(decide (-1099511627776<=v.n)&&(decide (v.n<=1099511627776)&&decide (Nat.gcd (max v.n (0 - v.n)).toNat v.d.toNat=1)))))):=by
   unfold Vl.right;rw[if_neg h0,if_neg h1,if_pos h2];rfl
  refine⟨fun g1=>⟨fun g2=>⟨fun g3=>⟨fun g4=>⟨fun g5 w2 hw2=>⟨(sx ⟨g3,g4⟩ w2).mono ?_⟩,fun g5 w2 hw2=>fl (by rw[e0];simp[g5]) (hw1.trans hw2)⟩,fun g4 w2 hw2=>fl (by rw[e0];simp[g4]) (hw1.trans hw2)⟩,fun g3 w2 hw2=>fl (by rw[e0];simp[g3]) (hw1.trans hw2)⟩,fun g2 w2 hw2=>fl (by rw[e0];simp[g2]) (hw1.trans hw2)⟩,fun g1 w2 hw2=>fl (by rw[e0];simp[g1]) (hw1.trans hw2)⟩
  rintro e w3 ⟨a1,m1,c1,rfl,hk2,hR1⟩
  refine⟨_,_,_,rfl,hk2,⟨(sx (n:=v.d) (by omega) w3).mono ?_⟩⟩
  rintro e w4 ⟨a2,m2,c2,rfl,hk3,hR2⟩
  refine⟨_,_,_,rfl,hk3,⟨(u7 (by omega) (by omega) (hR1.kp0 hk3) hR2).mono ?_⟩⟩
  rintro e w5 ⟨a3,m3,c3,rfl,hk4,hR3,hb3⟩
  refine⟨_,_,_,rfl,hk4,⟨(eK (n:=1) (by omega) w5).mono ?_⟩⟩
  rintro e w6 ⟨a4,m4,c4,rfl,hk5,hR4⟩
  refine⟨_,_,_,rfl,hk5,⟨(sT (hR3.kp0 hk5) hR4).mono ?_⟩⟩
  rintro e w7 ⟨hk6,r,rfl,hr⟩
  refine⟨_,rfl,hk6,fl ?_ (((((hw1.trans hw2).trans (hk2.trans hk3)).trans hk4).trans hk5).trans hk6)⟩
  rw[e0]
  simp only[g5,g1,g2,g3,g4,decide_true,Bool.true_and,decide_eq_decide]
  rw[hr,show(max v.n (0 - v.n)).toNat=v.n.natAbs from by omega,show v.d.toNat=v.d.natAbs from by omega]
  exact⟨fun h=>A5 hb3 (by omega) h,fun h=>by rw[h]⟩
 ·have e0:v.right=(decide (v.n=0)&&(decide (v.d=0)&&(decide (v.s.size<=16)&&fY (cB v.s)))):=by unfold Vl.right;rw[if_neg h0,if_neg h1,if_neg h2,if_pos h3]
  obtain⟨B,hB⟩:∃B,B=(decide (v.n=0)&&(decide (v.d=0)&&decide ((v.s.size:Int)<=16))):=⟨_,rfl⟩
  refine⟨fun vs w'=>vs=[.bool B]/\KpL [] w w',⟨fun g1=>⟨fun g2=>⟨by rw[hB];simp[g1,g2],hw1⟩,fun g2=>⟨by rw[hB];simp[g2],hw1⟩⟩,fun g1=>⟨by rw[hB];simp[g1],hw1⟩⟩,?_⟩
  rintro b w13 ⟨hv,hk13⟩
  simp only[List.cons.injEq,Value.bool.injEq,and_true]at hv
  subst hv
  refine⟨fun vs w'=>∃i:Nat,vs=[.bool (b&&fY ((cB v.s).take i)),iv (i:Int)]/\i<=v.s.size/\KpL [] w w',fun vs _=>match vs with|[_,.int _ i]=>v.s.size - i.toNat|_=>0,⟨0,by simp[fY],by omega,hk13⟩,?_⟩
  rintro b2 n2 w14 ⟨i,hv,hi,hk14⟩
  simp only[List.cons.injEq,Value.int.injEq,Value.bool.injEq,true_and,and_true]at hv
  obtain⟨rfl,rfl⟩:=hv
  constructor
  ·intro hlt
   have gi:i<(cB v.s).length:=by rw[bo];omega
   have hs:=ur gi
   rw[jT (by omega)]
   have go:∀{c:Bool},(b&&fY ((cB v.s).take (i+1)))=c->(∃j:Nat,[Value.bool c,iv ((i:Int)+1)]=[.bool (b&&fY ((cB v.s).take j)),iv (j:Int)]/\j<=v.s.size/\KpL [] w w14)/\v.s.size - ((i:Int)+1).toNat<v.s.size - (i:Int).toNat:=fun h=>⟨⟨i+1,by rw[h];simp,by omega,hk14⟩,by omega⟩
   rw[hs,<-Bool.and_assoc]at go
   exact⟨fun ht=>⟨by omega,hlt,fun g1=>⟨by omega,hlt,ae.2 (by omega),go (by rw[ht];simp[g1])⟩,fun g1=>⟨ae.2 (by omega),go (by simp[g1])⟩⟩,fun hf=>⟨ae.2 (by omega),go (by rw[hf];rfl)⟩⟩
  ·intro hge
   refine fl ?_ hk14
   rw[List.take_of_length_le (by rw[bo];omega),e0,hB]
   simp only[Bool.and_assoc]
   congr 3
   simp only[decide_eq_decide]
   omega
 ·unfold Vl.right;rw[if_neg h0,if_neg h1,if_neg h2,if_neg h3]
 ·rintro b w15 ⟨hv,hk⟩
  simp only[List.cons.injEq,Value.bool.injEq,and_true]at hv
  subst hv
  exact⟨fun h=>⟨by rw[if_pos h],hk⟩,fun h=>⟨by rw[if_neg (by simp[h])],hk⟩⟩
theorem zY(v:Vl)(hs:v.s.size<=az)(t:Int)(w:World):Calls Zz 202 #[v.agg,iv t] w (aA (.bool (v.fits t)) w):=by
 refine Aj fun _ _ w1 hk1=>⟨(ue v hs w1).mono ?_⟩
 rintro e w2 ⟨rfl,hk2⟩
 have fl:∀{b:Bool},b=v.fits t->aA (.bool (v.fits t)) w (.returned (.bool b)) w2:=by
  rintro b rfl;exact⟨rfl,hk1.trans hk2⟩
 refine⟨_,rfl,hk2,fun hz=>?_,fun hz=>fl ?_⟩
 ·have hr:v.right=true:=by
   cases h:v.right
   ·rw[h]at hz;simp at hz
   ·rfl
  have h3':v.k≠0->v.k≠1->v.k≠2->v.k=3:=fun g0 g1 g2=>by
   refine Classical.byContradiction fun g3=>?_
   unfold Vl.right at hr
   rw[if_neg g0,if_neg g1,if_neg g2,if_neg g3]at hr
   cases hr
  refine⟨fun h1=>⟨fun h2=>fl ?_,fun h2=>⟨fun h3=>fl ?_,fun h3=>⟨fun h4=>fl ?_,fun h4=>⟨fun h5=>⟨fun h6=>⟨fun h7=>fl ?_,fun h7=>fl ?_⟩,fun h6=>fl ?_⟩,fun h5=>fl ?_⟩⟩⟩⟩,fun h1=>fl ?_⟩<;>unfold Vl.fits<;>rw[hr]
  all_goals first|(simp[*];done)|(simp[*];omega)|(rw[if_pos h4,decide_eq_true (p:=1<=t) (by omega),decide_eq_true (p:=t<=4) (by omega)];simp;done)|simp[h3' h3 h4 h5,show 1<=t from by omega,show t<=4 from by omega]
 ·have hr:v.right=false:=by
   cases h:v.right
   ·rfl
   ·rw[h]at hz;simp at hz
  unfold Vl.fits
  rw[hr]
  rfl
end Go.Vc
namespace Go.Vc
open Go Go.Proofs
def Ix(w:World)(n:Nat)(P:Nat->Prop)(vs:List Value)(w':World):Prop:=∃i:Nat,vs=[iv (i:Int)]/\i<=n/\KpL [] w w'/\P i
def oF(n:Nat)(vs:List Value)(_:World):Nat:=match vs with|[.int _ i]=>n - i.toNat|_=>0
theorem Ix.start{w w':World}{n:Nat}{P:Nat->Prop}(hk:KpL [] w w')(h:P 0):Ix w n P [iv 0] w':=⟨0,rfl,Nat.zero_le _,hk,h⟩
theorem Ix.next{w w' w1 w0:World}{n i:Nat}{P:Nat->Prop}(hi:i<n)(hm:(n:Int)<=9223372036854775807)(hk:KpL [] w w')(h:P (i+1)):ar .i64 ((i:Int)+1)/\Ix w n P [iv ((i:Int)+1)] w'/\oF n [iv ((i:Int)+1)] w1<oF n [iv (i:Int)] w0 :=
 ⟨ae.2 (by omega),⟨i+1,rfl,hi,hk,h⟩,by unfold oF;dsimp only;omega⟩
theorem nB(c:Int)(w:World):Calls Zz 169 #[.int .u8 c] w (aA (.bool (decide (97<=c)&&decide (c<=122))) w) :=
 t8 ⟨fun h=>⟨by simp[h],KpL.refl _ _⟩,fun h=>⟨by simp[h],KpL.refl _ _⟩⟩
theorem rY(c:Int)(w:World):Calls Zz 170 #[.int .u8 c] w (aA (.bool (gn 1 c)) w):=by
 refine sI ⟨(nB c w).mono ?_⟩
 rintro e w1 ⟨rfl,hk⟩
 refine⟨_,rfl,hk,fun h=>?_,fun h=>⟨by unfold gn;rw[h];rfl,hk⟩⟩
 have e:gn 1 c=(decide (c=95) || (decide (48<=c)&&decide (c<=57))):=by unfold gn;rw[h];simp
 rw[e]
 exact⟨fun g1=>⟨fun g2=>⟨by simp[g1,g2],hk⟩,fun g2=>⟨by simp[g1,g2],hk⟩⟩,fun g1=>⟨by simp[g1],hk⟩⟩
theorem jj:∀(l:List Int) (i:Nat),fJ (i+1) l=fJ 1 l
 |[],_=>rfl
 |c::r,i=>by
  rw[fJ,fJ,jj r (i+1),jj r 1]
  rfl
theorem km(s:ByteArray)(w:World):Calls Zz 139 #[.string s] w (aA (.bool (bx s)) w):=by
 refine zr ⟨fun h1=>⟨fun h2=>?_,fun h2=>⟨?_,KpL.refl _ _⟩⟩,fun h1=>⟨?_,KpL.refl _ _⟩⟩
 rotate_left
 ·unfold bx;rw[decide_eq_false (p:=s.size<=12) (by omega)];simp
 ·unfold bx;rw[decide_eq_false (p:=1<=s.size) (by omega)];rfl
 have e0:bx s=fJ 0 (cB s):=by unfold bx;rw[decide_eq_true (p:=s.size<=12) (by omega),decide_eq_true (p:=1<=s.size) (by omega)];simp
 have hl:=bo s
 have g0:0<(cB s).length:=by omega
 have b0:=jT (s:=s) (i:=0) (by omega)
 have e1:bx s=(gn 0 (cW s 0)&&fJ 1 ((cB s).drop 1)):=by
  rw[e0,<-List.drop_zero (l:=cB s),List.drop_eq_getElem_cons g0,fJ,<-b0]
  rfl
 have ec:gn 0 (cW s 0)=(decide (97<=cW s 0)&&decide (cW s 0<=122)):=by unfold gn;simp
 refine⟨by omega,by omega,⟨(nB _ w).mono ?_⟩⟩
 rintro e w1 ⟨rfl,hk1⟩
 rw[<-ec]
 refine⟨_,rfl,hk1,fun h=>⟨by rw[e1,gU h];rfl,hk1⟩,fun h=>?_⟩
 rw[eP h,Bool.true_and]at e1
 refine⟨Ix w s.size fun i=>bx s=fJ 1 ((cB s).drop i),oF s.size,Ix.start hk1 ?_,?_⟩
 ·have:gn 1 (cW s 0)=true:=by
   have:=eP h
   rw[ec]at this
   unfold gn
   rw[this]
   rfl
  rw[e1,List.drop_eq_getElem_cons g0,fJ,<-b0,jj _ 1]
  rw[show cW s ((0:Nat):Int)=cW s 0 from rfl,this]
  rfl
 rintro n1 w2 ⟨i,hv,hi,hk,he⟩
 obtain rfl:=v1 hv
 constructor
 ·intro hlt
  have gi:i<(cB s).length:=by omega
  rw[List.drop_eq_getElem_cons gi,fJ,jj _ 1,<-jT (by omega)]at he
  refine⟨by omega,hlt,⟨(rY _ w2).mono ?_⟩⟩
  rintro e w3 ⟨rfl,hk3⟩
  refine⟨_,rfl,hk3,fun h=>⟨by rw[he,gU h];rfl,hk.trans hk3⟩,fun h=>?_⟩
  rw[eP h,Bool.true_and]at he
  exact Ix.next (by omega) (by omega) (hk.trans hk3) he
 ·intro hge
  rw[List.drop_eq_nil_of_le (by omega)]at he
  exact⟨by rw[he];rfl,hk⟩
theorem tU(d:dI)(w:World):Calls Zz 212 #[.agg #[.string d.name,iv d.lo,iv d.hi]] w (aA (.bool (!decide (d.lo < -1073741824∨1073741824<d.lo∨d.hi<d.lo∨1073741825<d.hi))) w) :=
 vj fun _ _=>⟨fun h1=>⟨fun h2=>⟨fun h3 w1 hw=>⟨by congr 2;rw[Bool.eq_iff_iff];simp;omega,hw⟩,fun h3 w1 hw=>⟨by simp;omega,hw⟩⟩,fun h2 w1 hw=>⟨by simp;omega,hw⟩⟩,fun h1 w1 hw=>⟨by simp;omega,hw⟩⟩
theorem x9(d:dI)(w:World):Calls Zz 213 #[.agg #[.string d.name,iv d.lo,iv d.hi]] w (aA (iv d.last) w) :=
 zf fun _ _=>⟨_,lk,fun _ hk=>⟨rfl,hk⟩⟩
theorem cJ{α:Type}{f:α->ByteArray}{l:List α}{j:Nat}(hj:j<l.length){s:ByteArray}(h:s∉(l.take j).map f)(hne:¬f l[j]=s):s∉(l.take (j+1)).map f:=by
 rw[<-List.take_append_getElem hj,List.map_append,List.mem_append]
 rintro(h1|h1)
 ·exact h h1
 ·simp at h1
  exact hne h1.symm
theorem rh{α:Type}{f:α->ByteArray}{l:List α}{j i:Nat}(hj:j<i)(hi:i<=l.length):f (l[j]'(by omega))∈(l.take i).map f:=by
 refine List.mem_map.2 ⟨_,?_,rfl⟩
 rw[List.mem_take_iff_getElem]
 exact⟨j,by omega,rfl⟩
theorem A4{M:List Nat}{w:World}{ds:List dI}{a:Option Addr}{n c:Nat}(hd:R (au bY) M w ds [.slice a n c]):
 Calls Zz 199 #[.slice a n c] w (aA (iv (bX [] ds).1) w):=by
 obtain⟨rfl,hn1,hn2⟩:=hd.sl_len
 have hmx:az=140737488355328:=rfl
 refine zN ⟨fun h1=>⟨fun h4=>⟨?_,KpL.refl _ _⟩,fun h4=>?_⟩,fun h1=>⟨?_,KpL.refl _ _⟩⟩
 ·unfold bX;rw[if_pos (by omega)]
 rotate_left
 ·unfold bX;rw[if_pos (by omega)]
 rw[show bX [] ds=dB [] ds from by unfold bX;rw[if_neg (by omega)]]
 refine⟨Ix w ds.length fun i=>(dB ((ds.take i).map (·.name)) (ds.drop i)).1=(dB [] ds).1,oF ds.length,Ix.start (KpL.refl _ _) rfl,?_⟩
 rintro n1 w1 ⟨i,hv,hi,hk,he⟩
 obtain rfl:=v1 hv
 constructor
 ·intro hlt
  have g1:i<ds.length:=by omega
  have rd:∀{w':World} (_:KpL [] w w') {j:Nat} (hj:j<ds.length),∃ad,a=some ad/\ao w' (ad.add (j*3)) [.string ds[j].name,iv ds[j].lo,iv ds[j].hi]/\ao w' ((ad.add (j*3)).add 0) [.string ds[j].name]:=by
   intro w' hk' j hj
   obtain⟨ad,cs,rfl,hv1,hld1,_,_,hpt⟩:=(hd.kp0 hk').sl_get2 hj
   obtain⟨rfl,_⟩:=hv1.dim
   exact⟨ad,rfl,hld1,hpt 0 [_] rfl⟩
  obtain⟨ad,rfl,_,hld1⟩:=rd hk g1
  rw[List.drop_eq_getElem_cons g1,dB]at he
  refine⟨ad,rfl,by omega,hlt,_,hld1,⟨(km _ w1).mono ?_⟩⟩
  rintro e w2 ⟨rfl,hk2⟩
  have hk02:=hk.trans hk2
  refine⟨_,rfl,hk2,fun hb=>⟨by rw[<-he,if_pos (.inl (gU hb))],hk02⟩,fun hb=>?_⟩
  refine⟨Ix w i fun j=>ds[i].name∉(ds.take j).map (·.name),oF i,Ix.start hk02 (by simp),?_⟩
  rintro n2 w3 ⟨j,hv,hj,hk3,hm⟩
  obtain rfl:=v1 hv
  constructor
  ·intro hlt2
   have g2:j<ds.length:=by omega
   obtain⟨_,e1,_,hldj⟩:=rd hk3 g2
   obtain⟨_,e2,_,hldi⟩:=rd hk3 g1
   refine⟨_,e1,by omega,by omega,_,hldj,_,e2,by omega,hlt,_,hldi,fun hq w4 hw4=>⟨?_,hk3.trans hw4⟩,fun hq=>?_⟩
   ·rw[<-he,if_pos (.inr (by rw[<-hq];exact rh (f:=fun d:dI=>d.name) (by omega) hi))]
   ·have:=Ix.next (w:=w) (n:=i) (i:=j) (P:=fun j=>ds[i].name∉(ds.take j).map (·.name)) (w':=w3) (w1:=w3) (w0:=w3) (by omega) (by omega) hk3 (cJ g2 hm hq)
    exact⟨this.1,fun w5 hw5=>⟨⟨j+1,rfl,by omega,hk3.trans hw5,cJ g2 hm hq⟩,this.2.2⟩⟩
  ·intro hge
   obtain rfl:j=i:=by omega
   obtain⟨_,e1,hldj,_⟩:=rd hk3 g1
   refine⟨_,e1,by omega,hlt,_,_,_,hldj,⟨(tU ds[j] w3).mono ?_⟩⟩
   rintro e w6 ⟨rfl,hk6⟩
   rw[if_neg (by rw[eP hb];simp only[reduceCtorEq,false_or];exact hm)]at he
   refine⟨_,rfl,hk6,fun hb=>⟨?_,hk3.trans hk6⟩,fun hb=>?_⟩
   ·rw[<-he,if_pos (of_decide_eq_true (eP (gU hb)))]
   ·rw[if_neg (of_decide_eq_false (gU (eP hb)))]at he
    refine Ix.next g1 (by omega) (hk3.trans hk6) ?_
    rw[<-List.take_append_getElem g1,List.map_append]
    exact he
 ·intro hge
  rw[List.drop_eq_nil_of_le (by omega),dB]at he
  exact⟨by rw[<-he],hk⟩
theorem qe:∀{ds:List dI} {met:List ByteArray},(dB met ds).1=0->(dB met ds).2=met++ds.map (·.name)
 |[],met,_=>by simp[dB]
 |d::r,met,h=>by
  rw[dB]at h ⊢
  split at h
  ·cases h
  rename_i h1
  rw[if_neg h1]
  split at h
  ·cases h
  rename_i h2
  rw[if_neg h2,qe h]
  simp
theorem xJ{M M':List Nat}{w:World}{ds:List dI}{ats:List cI}{a b:Option Addr}{n c m r:Nat}(hd:R (au bY) M w ds [.slice a n c])(ha:R (au bw) M' w ats [.slice b m r]){k:Nat}(hk:k<=ats.length)(s:ByteArray):
 Calls Zz 200 #[.slice a n c,.slice b m r,iv k,.string s] w (aA (.bool (decide (s∈ds.map (·.name)++(ats.take k).map (·.name)))) w):=by
 obtain⟨rfl,_,_⟩:=hd.sl_len
 obtain⟨rfl,_,_⟩:=ha.sl_len
 have hmx:az=140737488355328:=rfl
 refine xj ⟨Ix w ds.length fun i=>s∉(ds.take i).map (·.name),oF ds.length,Ix.start (KpL.refl _ _) (by simp),?_⟩
 rintro n1 w1 ⟨i,hv,hi,hk1,hm⟩
 obtain rfl:=v1 hv
 constructor
 ·intro hlt
  have g1:i<ds.length:=by omega
  obtain⟨ad,cs,rfl,hv1,hld1,_,_,hpt⟩:=(hd.kp0 hk1).sl_get2 g1
  obtain⟨rfl,_⟩:=hv1.dim
  refine⟨ad,rfl,by omega,hlt,_,hpt 0 [_] rfl,fun hq=>⟨?_,hk1⟩,fun hq=>Ix.next g1 (by omega) hk1 (cJ g1 hm hq)⟩
  rw[decide_eq_true (List.mem_append_left _ (List.mem_map.2 ⟨_,List.getElem_mem g1,hq⟩))]
 intro hge
 rw[List.take_of_length_le (by omega)]at hm
 refine⟨Ix w k fun i=>s∉(ats.take i).map (·.name),oF k,Ix.start hk1 (by simp),?_⟩
 rintro n2 w2 ⟨j,hv,hj,hk2,hm2⟩
 obtain rfl:=v1 hv
 constructor
 ·intro hlt
  have g1:j<ats.length:=by omega
  obtain⟨ad,cs,rfl,hv1,hld1,_,_,hpt⟩:=(ha.kp0 hk2).sl_get2 g1
  obtain⟨rfl,_⟩:=hv1.attr
  refine⟨ad,rfl,by omega,by omega,_,hpt 0 [_] rfl,fun hq=>⟨?_,hk2⟩,fun hq=>Ix.next (by omega) (by omega) hk2 (cJ g1 hm2 hq)⟩
  rw[decide_eq_true (List.mem_append_right _ (by rw[<-hq];exact rh (f:=fun d:cI=>d.name) (by omega) hk))]
 ·intro hge2
  obtain rfl:j=k:=by omega
  rw[decide_eq_false (by rw[List.mem_append];rintro(h|h);exact hm h;exact hm2 h)]
  exact⟨rfl,hk2⟩
theorem tX{M M':List Nat}{w:World}{ds:List dI}{ats:List cI}{a b:Option Addr}{n c m r:Nat}(hd:R (au bY) M w ds [.slice a n c])(ha:R (au bw) M' w ats [.slice b m r]):
 Calls Zz 171 #[.slice a n c,.slice b m r] w (aA (iv (aV ds ats)) w):=by
 obtain⟨rfl,hn1,hn2⟩:=ha.sl_len
 have hmx:az=140737488355328:=rfl
 refine tR ⟨(A4 hd).mono ?_⟩
 rintro e w1 ⟨rfl,hk1⟩
 have e0:aV ds ats=if (bX [] ds).1≠0 then (bX [] ds).1 else if ats.length<1∨6<ats.length then 9 else ez (bX [] ds).2 ats:=rfl
 refine⟨_,rfl,hk1,fun hne=>⟨by rw[e0,if_pos hne],hk1⟩,fun hz=>?_⟩
 rw[if_neg hz]at e0
 refine⟨fun h1=>⟨fun h6=>⟨by rw[e0,if_pos (by omega)],hk1⟩,fun h6=>?_⟩,fun h1=>⟨by rw[e0,if_pos (by omega)],hk1⟩⟩
 rw[if_neg (by omega)]at e0
 have em:(bX [] ds).2=ds.map (·.name):=by
  have hz':=Classical.not_not.1 hz
  unfold bX at hz' ⊢
  split at hz'
  ·cases hz'
  ·rename_i hc
   rw[if_neg hc,qe hz']
   rfl
 rw[em]at e0
 refine⟨Ix w ats.length fun i=>ez (ds.map (·.name)++(ats.take i).map (·.name)) (ats.drop i)=aV ds ats,oF ats.length,Ix.start hk1 (by rw[e0];simp),?_⟩
 rintro n1 w2 ⟨i,hv,hi,hk2,he⟩
 obtain rfl:=v1 hv
 constructor
 ·intro hlt
  have g1:i<ats.length:=by omega
  have rd:∀{w':World} (_:KpL [] w w'),∃ad,b=some ad/\ao w' ((ad.add (i*2)).add 0) [.string ats[i].name]/\ao w' ((ad.add (i*2)).add 1) [iv ats[i].type]:=by
   intro w' hk'
   obtain⟨ad,cs,rfl,hv1,hld1,_,_,hpt⟩:=(ha.kp0 hk').sl_get2 g1
   obtain⟨rfl,_⟩:=hv1.attr
   exact⟨ad,rfl,hpt 0 [_] rfl,hpt 1 [_] rfl⟩
  rw[List.drop_eq_getElem_cons g1,ez]at he
  obtain⟨ad,rfl,l1,_⟩:=rd hk2
  refine⟨ad,rfl,by omega,hlt,_,l1,⟨(km _ w2).mono ?_⟩⟩
  rintro e w3 ⟨rfl,hk3⟩
  have hk03:=hk2.trans hk3
  refine⟨_,rfl,hk3,fun hb=>?_,fun hb=>⟨by rw[<-he,if_pos (.inl (gU hb))],hk03⟩⟩
  obtain⟨_,e1,l1,_⟩:=rd hk03
  refine⟨_,e1,by omega,hlt,_,l1,⟨(xJ (hd.kp0 hk03) (ha.kp0 hk03) hi ats[i].name).mono ?_⟩⟩
  rintro e w4 ⟨rfl,hk4⟩
  have hk04:=hk03.trans hk4
  refine⟨_,rfl,hk4,fun ht=>⟨by rw[<-he,if_pos (.inr (of_decide_eq_true ht))],hk04⟩,fun hf=>?_⟩
  rw[if_neg (by rw[eP hb];simp only[reduceCtorEq,false_or];exact of_decide_eq_false hf)]at he
  obtain⟨_,e1,_,l2⟩:=rd hk04
  refine⟨_,e1,by omega,hlt,_,l2,fun c1=>⟨_,e1,by omega,hlt,_,l2,fun c2=>⟨by rw[<-he,if_pos (by omega)],hk04⟩,fun c2=>?_⟩,fun c1=>⟨by rw[<-he,if_pos (by omega)],hk04⟩⟩
  rw[if_neg (by omega)]at he
  refine Ix.next g1 (by omega) hk04 ?_
  rw[<-List.take_append_getElem g1,List.map_append,<-List.append_assoc]
  exact he
 ·intro hge
  rw[List.drop_eq_nil_of_le (by omega),ez]at he
  exact⟨by rw[<-he],hk2⟩
end Go.Vc
namespace Go.Vc
open Go Go.Proofs
theorem R.bare{α:Type}{t:Ty α}{M:List Nat}{w:World}{x:α}{cs:List Value}(h:R t M w x cs):R t [] w x cs:=h.weak (by simp)
end Go.Vc
namespace Go.Vc
open Go Go.Proofs
open Go.Value Go.Ending Go.IntKind
set_option maxRecDepth 100000
section
variable{w:World}{R:Ending->World->Prop}
end
end Go.Vc
