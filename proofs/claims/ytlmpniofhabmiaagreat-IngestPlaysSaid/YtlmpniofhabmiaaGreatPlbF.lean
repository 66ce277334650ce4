/- 'tesseractlaw10.IngestPlays' returns true whatever its input is, and each of its arguments reads afterwards as it read before. Conditions: none. -/
import Derived.Test.YtlmpniofhabmiaaGreatPlbE
import Derived.Below
import Derived.Deep.Slices
import Derived.OpenShut
import Derived.SizedLaws
import Derived.ChangeOld
import Derived.ProofKit
import Derived.ShutString
import Derived.Test.YtlmpniofhabmiaaGreatRows
import Derived.WalkKit
set_option linter.unusedVariables false
set_option linter.unusedSimpArgs false
set_option linter.unusedSectionVars false
namespace Go.Vc
open Go Go.Proofs
theorem AD{M M':List Nat}{w:World}{ds:List dI}{xs:List Int}{a b:Option Addr}{n c m q:Nat}(hd:R (au bY) M w ds [.slice a n c])(hx:R (au (tI .i64)) M' w xs [.slice b m q]):
 Calls Zz 201 #[.slice a n c,.slice b m q] w (aA (.bool (lU ds xs)) w):=by
 obtain⟨rfl,hn1,hn2⟩:=hd.sl_len
 obtain⟨rfl,hm1,hm2⟩:=hx.sl_len
 have hmx:az=140737488355328:=rfl
 refine DX ⟨fun hne=>⟨?_,KpL.refl _ _⟩,fun he=>?_⟩
 ·cases h:lU ds xs
  ·rfl
  ·have:=qx h;omega
 have hl:xs.length=ds.length:=by omega
 refine⟨Ix w ds.length fun i=>lU (ds.drop i) (xs.drop i)=lU ds xs,oF ds.length,Ix.start (KpL.refl _ _) rfl,?_⟩
 rintro n1 w1 ⟨i,hv,hi,hk,he1⟩
 obtain rfl:=v1 hv
 constructor
 ·intro hlt
  have h1:i<xs.length:=by omega
  have h2:i<ds.length:=by omega
  obtain⟨ad,cs,rfl,hv1,hld1,_,_⟩:=(hx.kp0 hk).sl_get h1
  obtain⟨rfl,hok1⟩:=hv1.intD
  obtain⟨ad2,cs2,rfl,hv2,hld2,_,_,hpt⟩:=(hd.kp0 hk).sl_get2 h2
  obtain⟨rfl,hok2⟩:=hv2.dim
  rw[List.drop_eq_getElem_cons h1,List.drop_eq_getElem_cons h2,lU]at he1
  refine⟨ad,rfl,by omega,by omega,_,hld1,ad2,rfl,by omega,by omega,_,hpt 1 [_] rfl,fun hlo=>⟨ad,rfl,by omega,by omega,_,hld1,ad2,rfl,by omega,hlt,_,_,_,hld2,fun w2 hw2=>⟨(x9 ds[i] w2).mono ?_⟩⟩,fun hlo w4 hw4=>⟨?_,hk.trans hw4⟩⟩
  ·rintro e w3 ⟨rfl,hk3⟩
   have hk03:=(hk.trans hw2).trans hk3
   refine⟨_,rfl,hk3,fun hhi=>⟨?_,hk03⟩,fun hhi=>Ix.next h2 (by omega) hk03 ?_⟩
   ·rw[<-he1,decide_eq_false (p:=xs[i]<=ds[i].last) (by omega)];simp
   ·rw[<-he1,decide_eq_true (p:=xs[i]<=ds[i].last) (by omega),decide_eq_true (p:=ds[i].lo<=xs[i]) (by omega)];simp
  ·rw[<-he1,decide_eq_false (p:=ds[i].lo<=xs[i]) (by omega)];simp
 ·intro hge
  rw[List.drop_eq_nil_of_le (by omega),List.drop_eq_nil_of_le (by omega)]at he1
  exact⟨by rw[<-he1];rfl,hk⟩
theorem rT{M M' M2:List Nat}{w:World}{ds:List dI}{ats:List cI}{c:aR}{a b c1 c2:Option Addr}{n q m r n1 q1 n2 q2:Nat}(hd:R (au bY) M w ds [.slice a n q])(ha:R (au bw) M' w ats [.slice b m r])
 (hx:R (au (tI .i64)) M2 w c.at_ [.slice c1 n1 q1])(hy:R (au cv) M2 w c.vals [.slice c2 n2 q2]):
 Calls Zz 172 #[.slice a n q,.slice b m r,.agg #[.slice c1 n1 q1,.slice c2 n2 q2]] w (aA (iv (cT ds ats c)) w):=by
 obtain⟨rfl,_,_⟩:=hd.sl_len
 obtain⟨rfl,_,_⟩:=ha.sl_len
 obtain⟨rfl,_,_⟩:=hx.sl_len
 obtain⟨rfl,_,hm2⟩:=hy.sl_len
 have hmx:az=140737488355328:=rfl
 refine B6 fun _ _=>⟨fun he=>⟨fun hne w1 hk1=>⟨?_,hk1⟩,fun he2 w1 hk1=>⟨(AD (hd.kp0 hk1) (hx.kp0 hk1)).mono ?_⟩⟩,fun hne w1 hk1=>⟨?_,hk1⟩⟩
 ·unfold cT;rw[if_pos (.inr (by omega))]
 rotate_left
 ·unfold cT;rw[if_pos (.inl (by omega))]
 rintro e w2 ⟨rfl,hk2⟩
 have hk12:=hk1.trans hk2
 have hl:c.vals.length=ats.length:=by omega
 have e0:cT ds ats c=if lU ds c.at_=false then 3 else if cH ats c.vals=false then 12 else 0:=by unfold cT;rw[if_neg (by omega)]
 refine⟨_,rfl,hk2,fun hb=>⟨?_,hk12⟩,fun hb=>⟨Ix w ats.length fun i=>cH (ats.drop i) (c.vals.drop i)=cH ats c.vals,oF ats.length,Ix.start hk12 rfl,?_⟩⟩
 ·rw[e0,if_pos (by simpa using hb)]
 rw[if_neg (by simpa using hb)]at e0
 rintro n1 w3 ⟨i,hv,hi,hk,he1⟩
 obtain rfl:=v1 hv
 constructor
 ·intro hlt
  have h1:i<c.vals.length:=by omega
  have h2:i<ats.length:=by omega
  obtain⟨ad,cs,rfl,hv1,hld1,_,_⟩:=(hy.kp0 hk).sl_get h1
  obtain⟨rfl,hok1⟩:=hv1.val
  obtain⟨ad2,cs2,rfl,hv2,hld2,_,_,hpt⟩:=(ha.kp0 hk).sl_get2 h2
  obtain⟨rfl,hok2⟩:=hv2.attr
  rw[List.drop_eq_getElem_cons h1,List.drop_eq_getElem_cons h2,cH]at he1
  refine⟨ad,rfl,by omega,by omega,_,_,_,_,hld1,ad2,rfl,by omega,hlt,_,hpt 1 [_] rfl,fun w4 hk4=>⟨(zY c.vals[i] hok1.2.2.2 ats[i].type w4).mono ?_⟩⟩
  rintro e w5 ⟨rfl,hk5⟩
  have hk45:=(hk.trans hk4).trans hk5
  refine⟨_,rfl,hk5,fun hf=>⟨?_,hk45⟩,fun hf=>Ix.next h2 (by omega) hk45 ?_⟩
  ·rw[e0,<-he1,gU hf];rfl
  ·rw[<-he1,eP hf];simp
 ·intro hge
  rw[List.drop_eq_nil_of_le (by omega),List.drop_eq_nil_of_le (by omega)]at he1
  exact⟨by rw[e0,<-he1];simp[cH],hk⟩
theorem uL{M1 M2 M3:List Nat}{w:World}{x:zj}{a1 a2 a3:Option Addr}{n1 c1 n2 c2 n3 c3:Nat}(h1:R (au bY) M1 w x.dims [.slice a1 n1 c1])(h2:R (au bw) M2 w x.attrs [.slice a2 n2 c2])(h3:R (au aC) M3 w x.cells [.slice a3 n3 c3]):
 Calls Zz 140 #[.agg #[.slice a1 n1 c1,.slice a2 n2 c2,.slice a3 n3 c3]] w (aA (iv (oV x)) w):=by
 have hmx:az=140737488355328:=rfl
 obtain⟨rfl,_,_⟩:=h3.sl_len
 refine ub fun _ _ w1 hk1=>⟨(tX (h1.kp0 hk1) (h2.kp0 hk1)).mono ?_⟩
 rintro e w2 ⟨rfl,hk2⟩
 have hk02:=hk1.trans hk2
 have e0:oV x=if aV x.dims x.attrs≠0 then aV x.dims x.attrs else if 4096<x.cells.length then 9 else cX x.dims x.attrs none x.cells:=rfl
 refine⟨_,rfl,hk2,fun hne=>⟨by rw[e0,if_pos hne],hk02⟩,fun hz=>?_⟩
 rw[if_neg hz]at e0
 refine⟨fun hl=>⟨by rw[e0,if_pos (by omega)],hk02⟩,fun hl=>?_⟩
 rw[if_neg (by omega)]at e0
 refine⟨Ix w x.cells.length fun i=>cX x.dims x.attrs (if i=0 then none else x.cells[i - 1]?) (x.cells.drop i)=cX x.dims x.attrs none x.cells,oF x.cells.length,Ix.start hk02 rfl,?_⟩
 rintro n1 w3 ⟨i,hv,hi,hk,he1⟩
 obtain rfl:=v1 hv
 constructor
 ·intro hlt
  have g1:i<x.cells.length:=by omega
  obtain⟨ad,cs,rfl,hv1,hld1,_,_⟩:=(h3.kp0 hk).sl_get g1
  obtain⟨b1,p1,q1,b2,p2,q2,rfl,hx1,hx2⟩:=hv1.cell
  rw[List.drop_eq_getElem_cons g1]at he1
  refine⟨ad,rfl,by omega,hlt,_,_,_,_,_,_,hld1,fun w4 hk4=>⟨(rT ((h1.kp0 hk).kp0 hk4) ((h2.kp0 hk).kp0 hk4) (hx1.kp0 hk4) (hx2.kp0 hk4)).mono ?_⟩⟩
  rintro e w5 ⟨rfl,hk5⟩
  have hk35:=hk4.trans hk5
  have hk05:KpL [] w w5:=hk.trans hk35
  refine⟨_,rfl,hk5,fun hne=>⟨?_,hk05⟩,fun hz2=>⟨fun hi0=>Ix.next g1 (by omega) hk05 ?_,fun hi0=>?_⟩⟩
  ·rw[e0,<-he1]
   cases (if i=0 then none else x.cells[i - 1]?)<;>rw[cX,if_pos hne]
  ·rw[if_pos (by omega),cX,if_neg hz2]at he1
   rw[if_neg (by omega),Nat.add_sub_cancel,List.getElem?_eq_getElem g1]
   exact he1
  have g2:i - 1<x.cells.length:=by omega
  obtain⟨ad1,cs1,had1,hv1',_,_,_,hpt1⟩:=(h3.kp0 hk05).sl_get2 g1
  obtain⟨ad2,cs2,had2,hv2,hld2,_,_,hpt⟩:=(h3.kp0 hk05).sl_get2 g2
  obtain⟨b3,p3,q3,b4,p4,q4,rfl,hy1,_⟩:=hv1'.cell
  obtain⟨b1',p1',q1',b2',p2',q2',rfl,hx1',hx2'⟩:=hv2.cell
  rw[if_neg (by omega),List.getElem?_eq_getElem g2,cX,if_neg hz2]at he1
  refine⟨ae.2 (by omega),_,had2,by omega,by omega,b1',p1',q1',?_,_,had1,by omega,hlt,b3,p3,q3,hpt1 0 [_] rfl,fun w6 hk6=>⟨(fQ (hx1'.kp0 hk6) (hy1.kp0 hk6)).mono ?_⟩⟩
  ·have:=hpt 0 [.slice b1' p1' q1'] rfl
   rw[show((i:Int) - 1).toNat=i - 1 from by omega]
   exact this
  rintro e w7 ⟨rfl,hk7⟩
  have hk07:KpL [] w w7:=(hk05.trans hk6).trans hk7
  have hc:=iH x.cells[i - 1].at_ x.cells[i].at_
  refine⟨_,rfl,hk7,fun c0=>⟨by rw[e0,<-he1,if_pos c0],hk07⟩,fun c0=>⟨fun c1=>⟨by rw[e0,<-he1,if_neg c0,if_pos (by omega)],hk07⟩,fun c1=>Ix.next g1 (by omega) hk07 ?_⟩⟩
  rw[if_neg c0,if_neg (by omega)]at he1
  rw[if_neg (by omega),Nat.add_sub_cancel,List.getElem?_eq_getElem g1]
  exact he1
 ·intro hge
  rw[List.drop_eq_nil_of_le (by omega)]at he1
  refine⟨?_,hk⟩
  rw[e0,<-he1]
  cases (if i=0 then none else x.cells[i - 1]?)<;>rfl
theorem qi{M:List Nat}{w:World}{db:List Nm}{a:Option Addr}{n c:Nat}(hd:R (au gG) M w db [.slice a n c]):Calls Zz 82 #[.slice a n c] w (aA (iv (mn db)) w):=by
 obtain⟨rfl,hn1,hn2⟩:=hd.sl_len
 have hmx:az=140737488355328:=rfl
 have e0:mn db=if 16<db.length then 9 else xR [] db:=rfl
 refine qF ⟨fun h=>⟨by rw[e0,if_pos (by omega)],KpL.refl _ _⟩,fun h=>?_⟩
 rw[if_neg (by omega)]at e0
 refine⟨Ix w db.length fun i=>xR ((db.take i).map (·.name)) (db.drop i)=mn db,oF db.length,Ix.start (KpL.refl _ _) e0.symm,?_⟩
 rintro n1 w1 ⟨i,hv,hi,hk,he⟩
 obtain rfl:=v1 hv
 constructor
 ·intro hlt
  have g1:i<db.length:=by omega
  have rd:∀{w':World} (_:KpL [] w w') {j:Nat} (hj:j<db.length),∃ad b1 p1 q1 b2 p2 q2 b3 p3 q3,a=some ad/\ao w' ((ad.add (j*4)).add 0) [.string db[j].name]/\ao w' ((ad.add (j*4)).add 1) [.slice b1 p1 q1,.slice b2 p2 q2,.slice b3 p3 q3]/\
   R (au bY) M w' db[j].arr.dims [.slice b1 p1 q1]/\R (au bw) M w' db[j].arr.attrs [.slice b2 p2 q2]/\R (au aC) M w' db[j].arr.cells [.slice b3 p3 q3]:=by
   intro w' hk' j hj
   obtain⟨ad,cs,rfl,hv1,hld1,_,_,hpt⟩:=(hd.kp0 hk').sl_get2 hj
   obtain⟨b1,p1,q1,b2,p2,q2,b3,p3,q3,rfl,_,hx1,hx2,hx3⟩:=hv1.nm
   exact⟨ad,b1,p1,q1,b2,p2,q2,b3,p3,q3,rfl,hpt 0 [_] rfl,hpt 1 [_,_,_] rfl,hx1,hx2,hx3⟩
  obtain⟨ad,_,_,_,_,_,_,_,_,_,rfl,hld1,_⟩:=rd hk g1
  rw[List.drop_eq_getElem_cons g1,xR]at he
  refine⟨ad,rfl,by omega,hlt,_,hld1,⟨(km _ w1).mono ?_⟩⟩
  rintro e w2 ⟨rfl,hk2⟩
  have hk02:=hk.trans hk2
  refine⟨_,rfl,hk2,fun hb=>⟨by rw[<-he,if_pos (.inl (gU hb))],hk02⟩,fun hb=>?_⟩
  refine⟨Ix w i fun j=>db[i].name∉(db.take j).map (·.name),oF i,Ix.start hk02 (by simp),?_⟩
  rintro n2 w3 ⟨j,hv,hj,hk3,hm⟩
  obtain rfl:=v1 hv
  constructor
  ·intro hlt2
   have g2:j<db.length:=by omega
   obtain⟨_,_,_,_,_,_,_,_,_,_,e1,hldj,_⟩:=rd hk3 g2
   obtain⟨_,_,_,_,_,_,_,_,_,_,e2,hldi,_⟩:=rd hk3 g1
   refine⟨_,e1,by omega,by omega,_,hldj,_,e2,by omega,hlt,_,hldi,fun hq w4 hw4=>⟨?_,hk3.trans hw4⟩,fun hq=>?_⟩
   ·rw[<-he,if_pos (.inr (by rw[<-hq];exact rh (f:=fun d:Nm=>d.name) (by omega) hi))]
   ·have:=Ix.next (w:=w) (n:=i) (i:=j) (P:=fun j=>db[i].name∉(db.take j).map (·.name)) (w':=w3) (w1:=w3) (w0:=w3) (by omega) (by omega) hk3 (cJ g2 hm hq)
    exact⟨this.1,fun w5 hw5=>⟨⟨j+1,rfl,by omega,hk3.trans hw5,cJ g2 hm hq⟩,this.2.2⟩⟩
  ·intro hge
   obtain rfl:j=i:=by omega
   obtain⟨_,_,_,_,_,_,_,_,_,_,e1,_,hldj,x1,x2,x3⟩:=rd hk3 g1
   refine⟨_,e1,by omega,hlt,_,_,_,_,_,_,_,_,_,hldj,⟨(uL x1 x2 x3).mono ?_⟩⟩
   rintro e w6 ⟨rfl,hk6⟩
   rw[if_neg (by rw[eP hb];simp only[reduceCtorEq,false_or];exact hm)]at he
   refine⟨_,rfl,hk6,fun hb=>⟨?_,hk3.trans hk6⟩,fun hb=>?_⟩
   ·rw[<-he,if_pos hb]
   ·rw[if_neg hb]at he
    refine Ix.next g1 (by omega) (hk3.trans hk6) ?_
    rw[<-List.take_append_getElem g1,List.map_append]
    exact he
 ·intro hge
  rw[List.drop_eq_nil_of_le (by omega),xR]at he
  exact⟨by rw[<-he],hk⟩
end Go.Vc
namespace Go.Vc
open Go Go.Proofs
theorem wD{α:Type}{e:Ty α}{st te by_:Nat}(hT:oe Zz st st te e.sz by_){M:List Nat}{w:World}{xs:List α}{a:Option Addr}{n c:Nat}(hM:∀b∈M,b<w.heap.size)
 (hS:∀w1 b,KpL [] w w1->w.heap.size<=b->∃ly,sU Zz e (b::M) w1 xs (.slice a n c) n ly)(hn:(2*n+768)*by_<=281474976710656){NI:List Nat->Prop}(hN:∀l,(∀b∈l,w.heap.size<=b)->NI l){Q:Option Addr->Nat->Nat->World->Prop}
 (hQ:∀a' c' w',aZ e M w none xs a' n c' w'->Q a' n c' w'):
 Ev Zz (Instr.buildSlice st 0 #[]) w fun y1 w1=>∃a1 k1 k2,y1=.slice a1 k1 k2/\∃l1,KpL l1 w w1/\NI l1/\Ev Zz (Builtin.append_ #[st,st] st #[.slice a1 k1 k2,.slice a n c]) w1 fun y2 w2 =>
  ∃a2 k3 k4,y2=.slice a2 k3 k4/\∃l2,KpL l2 w1 w2/\NI l2/\Q a2 k3 k4 w2:=by
 refine eQ (e:=e) hT.el hM fun w1 hC=>⟨_,_,_,rfl,_,hC.kp,hN _ (by simp[aj]),?_⟩
 obtain⟨ly,hS⟩:=hS w1 w.heap.size hC.kpn (Nat.le_refl _)
 refine cN (ys:=xs) (ly:=ly) hT hC.acc hS (by rw[Nat.zero_add];exact hn) fun a' c' w2 hC2=>⟨_,_,_,rfl,_,hC2.kp,hN _ (by simp[aj]),?_⟩
 have:=hC.trans hC2
 rw[List.nil_append]at this
 rw[Nat.zero_add]at this ⊢
 exact hQ _ _ _ this
theorem R.srcsM{α:Type}{e:Ty α}{M:List Nat}{w:World}{xs:List α}{a:Option Addr}{n c:Nat}(hR:R (au e) M w xs [.slice a n c]):∀w1 b,KpL [] w w1->w.heap.size<=b->∃ly,sU Zz e (b::M) w1 xs (.slice a n c) n ly :=
 fun _ _ k hb=>(hR.cons k hb).srcs
theorem lA{M M1 M2:List Nat}{w:World}{ds:List dI}{ats:List cI}{a b:Option Addr}{n c m q:Nat}(hM:∀b∈M,b<w.heap.size)(hd:R (au bY) M1 w ds [.slice a n c])(ha:R (au bw) M2 w ats [.slice b m q])(h1:ds.length<=1000000)(h2:ats.length<=1000000):
 Calls Zz 141 #[.slice a n c,.slice b m q] w fun e w'=>∃a1 n1 c1 a2 n2 c2,e=.returned (.agg #[.slice a1 n1 c1,.slice a2 n2 c2,.slice none 0 0])/\KpL [] w w'/\R (au bY) M w' ds [.slice a1 n1 c1]/\R (au bw) M w' ats [.slice a2 n2 c2]:=by
 have hmx:az=140737488355328:=rfl
 obtain⟨rfl,_,_⟩:=hd.sl_len
 obtain⟨rfl,_,_⟩:=ha.sl_len
 refine yA fun k1 hk1 w1 hw1 hl1=>?_
 have hM1:∀b∈k1::M,b<w1.heap.size:=by
  intro b hb
  rcases List.mem_cons.1 hb with rfl|hb
  ·exact hl1
  ·exact Nat.lt_of_lt_of_le (hM b hb) hw1.size
 refine wD (e:=bY) (M:=k1::M) (xs:=ds) Fi hM1 (fun _ _ k _=>(hd.kp0 hw1).srcsP eq k) (by omega:(2*ds.length+768)*32<=_) (fun l hl=>⟨fun h=>by have:=hl _ h;omega⟩) fun a1 c1 w3 hC=>?_
 have hw3:=hw1.trans hC.kpn
 refine wD (e:=bw) (M:=k1::M) (xs:=ats) Fg (fun b hb=>Nat.lt_of_lt_of_le (hM1 b hb) hC.kpn.size) (fun _ _ k _=>(ha.kp0 hw3).srcsP eq k) (by omega:(2*ats.length+768)*24<=_) (fun l hl=>⟨fun h=>by have:=hl _ h;have:=hC.kpn.size;omega⟩) fun a2 c2 w5 hC2 w6 hw6=>?_
 refine⟨_,_,_,_,_,_,rfl,(hw3.trans hC2.kpn).more hw6 (by simpa using hk1),?_,?_⟩
 ·exact(((hC.acc.kp0 hC2.kpn).done (by omega)).kp hw6 (by simp)).weak fun b hb=>by simp[hb]
 ·exact((hC2.acc.done (by omega)).kp hw6 (by simp)).weak fun b hb=>by simp[hb]
theorem hZ{M M2:List Nat}{w:World}{c:aR}{c1 c2:Option Addr}{n1 q1 n2 q2:Nat}(hM:∀b∈M,b<w.heap.size)
 (hx:R (au (tI .i64)) M2 w c.at_ [.slice c1 n1 q1])(hy:R (au cv) M2 w c.vals [.slice c2 n2 q2])(h1:c.at_.length<=1000000)(h2:c.vals.length<=1000000):
 Calls Zz 142 #[.agg #[.slice c1 n1 q1,.slice c2 n2 q2]] w fun e w'=>∃a1 n1 k1 a2 n2 k2,e=.returned (.agg #[.slice a1 n1 k1,.slice a2 n2 k2])/\KpL [] w w'/\R aC M w' c [.slice a1 n1 k1,.slice a2 n2 k2]:=by
 have hmx:az=140737488355328:=rfl
 obtain⟨rfl,_,_⟩:=hx.sl_len
 obtain⟨rfl,_,_⟩:=hy.sl_len
 refine qg fun k1 hk1 k2 hk2=>?_
 have fin:∀{a1:Option Addr} {m1 p1:Nat} {a2:Option Addr} {m2 p2:Nat} {w5 w6:World},KpL [] w w5->bI (tI .i64) (k2::k1::M) w5 c.at_ a1 m1 p1->bI cv (k2::k1::M) w5 c.vals a2 m2 p2->KpL [k2] w5 w6->
  ∃a1' n1 k1 a2' n2 k2,Ending.returned (.agg #[.slice a1 m1 p1,.slice a2 m2 p2])=.returned (.agg #[.slice a1' n1 k1,.slice a2' n2 k2])/\KpL [] w w6/\R aC M w6 c [.slice a1' n1 k1,.slice a2' n2 k2]:=by
  intro a1 m1 p1 a2 m2 p2 w5 w6 hk hA hB hk6
  have e1:=hA.len
  have e2:=hB.len
  exact⟨_,_,_,_,_,_,rfl,hk.more hk6 (by simpa using hk2),R.mkCell (((hA.done (by omega)).kp hk6 (by simp)).weak fun b hb=>by simp[hb]) (((hB.done (by omega)).kp hk6 (by simp)).weak fun b hb=>by simp[hb])⟩
 have lts:∀{w1:World},KpL [] w w1->k1<w1.heap.size->k2<w1.heap.size->∀b∈k2::k1::M,b<w1.heap.size:=by
  intro w1 hw1 g1 g2 b hb
  simp only[List.mem_cons]at hb
  rcases hb with rfl|rfl|hb
  ·exact g2
  ·exact g1
  ·exact Nat.lt_of_lt_of_le (hM b hb) hw1.size
 have le:∀{w1 w2:World} {l:List Nat},KpL [] w1 w2->(∀b∈l,b<w1.heap.size)->∀b∈l,b<w2.heap.size:=fun h hl b hb=>Nat.lt_of_lt_of_le (hl b hb) h.size
 have ni:∀{w1:World} {l:List Nat},k1<w1.heap.size->k2<w1.heap.size->(∀b∈l,w1.heap.size<=b)->af k2 l/\af k1 l:=fun g1 g2 hl=>⟨⟨fun h=>by have:=hl _ h;omega⟩,⟨fun h=>by have:=hl _ h;omega⟩⟩
 have ld:∀{w3:World},Hb w3 k1 #[.slice c1 c.at_.length q1,.slice c2 c.vals.length q2] 147->ao w3 (Addr.mk k1 (0+1) none) [.slice c2 c.vals.length q2]/\True:=fun h=>⟨ak h 1 [_] rfl,trivial⟩
 have apx:∀{M':List Nat} {w1:World} {a:Option Addr},KpL [] w w1->bI (tI .i64) M' w1 [] a 0 0->∀{Q:Value->World->Prop},(∀a' c' w',aZ (tI .i64) M' w1 a c.at_ a' c.at_.length c' w'->Q (.slice a' c.at_.length c') w')->
  Ev Zz (Builtin.append_ #[78,78] 78 #[.slice a 0 0,.slice c1 c.at_.length q1]) w1 Q:=by
  intro M' w1 a hk hC Q hQ
  obtain⟨ly,hS⟩:=hx.srcsP (P:=Zz) (M':=aj a++M') jh hk
  exact cN (ys:=c.at_) (ly:=ly) zm hC hS (by omega) fun a' c' w' h=>by
   rw[List.nil_append]at h
   rw[Nat.zero_add]at h ⊢
   exact hQ _ _ _ h
 have apy:∀{M':List Nat} {w0 w1:World} {a:Option Addr},KpL [] w w0->KpL [] w0 w1->bI cv M' w1 [] a 0 0->∀{Q:Value->World->Prop},(∀a' c' w',aZ cv M' w1 a c.vals a' c.vals.length c' w'->Q (.slice a' c.vals.length c') w')->
  Ev Zz (Builtin.append_ #[79,79] 79 #[.slice a 0 0,.slice c2 c.vals.length q2]) w1 Q:=by
  intro M' w0 w1 a hk0 hk hC Q hQ
  obtain⟨ly,hS⟩:=hy.srcsP (P:=Zz) (M':=aj a++M') eq (hk0.trans hk)
  exact cN (ys:=c.vals) (ly:=ly) El hC hS (by omega) fun a' c' w' h=>by
   rw[List.nil_append]at h
   rw[Nat.zero_add]at h ⊢
   exact hQ _ _ _ h
 have two:∀{w1 w4:World} {bi bv:Nat},k1<w1.heap.size->k2<w1.heap.size->w1.heap.size<=bi->w1.heap.size<=bv->w.heap.size<=bi->w.heap.size<=bv->KpL [] w w4->bI (tI .i64) (bv::k2::k1::M) w4 [] (some ⟨bi,0,none⟩) 0 0->bI cv (bi::k2::k1::M) w4 [] (some ⟨bv,0,none⟩) 0 0->
  Ev Zz (Builtin.append_ #[78,78] 78 #[sK bi 0 0,.slice c1 c.at_.length q1]) w4 fun y6 w8=>∃a6 k13 k14,y6=.slice a6 k13 k14/\∃l6,KpL l6 w4 w8/\(af k2 l6/\af k1 l6)/\
   (Hb w8 k1 #[.slice c1 c.at_.length q1,.slice c2 c.vals.length q2] 147->(ao w8 (Addr.mk k1 (0+1) none) [.slice c2 c.vals.length q2]/\True)/\
     Ev Zz (Builtin.append_ #[79,79] 79 #[sK bv 0 0,.slice c2 c.vals.length q2]) w8 fun y7 w9=>∃a7 k15 k16,y7=.slice a7 k15 k16/\∃l7,KpL l7 w8 w9/\(af k2 l7/\af k1 l7)/\
      ∀w10,KpL [k2] w9 w10->∃a1' n1 k1 a2' n2 k2,Ending.returned (.agg #[.slice a6 k13 k14,.slice a7 k15 k16])=.returned (.agg #[.slice a1' n1 k1,.slice a2' n2 k2])/\KpL [] w w10/\R aC M w10 c [.slice a1' n1 k1,.slice a2' n2 k2]):=by
  intro w1 w4 bi bv g1 g2 gi gv hi hv hk4 hA hB
  refine apx hk4 hA fun a2 p2 w8 hC2=>⟨_,_,_,rfl,_,hC2.kp,ni g1 g2 (by simpa[aj]using gi),fun hb=>⟨ld hb,?_⟩⟩
  have hk8:KpL [] w w8:=hk4.more hC2.kp (by simpa[aj]using hi)
  have hB8:=hB.kp hC2.kp (by simp[aj])
  refine apy hk8 (KpL.refl _ _) hB8 fun a' c' w9 hD2=>⟨_,_,_,rfl,_,hD2.kp,ni g1 g2 (by simpa[aj]using gv),fun w10 hw10=>?_⟩
  exact fin (hk8.more hD2.kp (by simpa[aj]using hv)) ((hC2.acc.kp hD2.kp (by simp[aj])).weak fun b hb=>by simp at hb ⊢;exact .inr hb) (hD2.acc.weak fun b hb=>by simp at hb ⊢;exact .inr hb) hw10
 refine⟨fun w1 hw1 g1 g2=>eQ (e:=tI .i64) zm.el (lts hw1 g1 g2) fun w2 hC=>⟨_,_,_,rfl,_,hC.kp,ni g1 g2 (by simp[aj]),apx (hw1.trans hC.kpn) hC.acc fun a2 p2 w3 hC2=>⟨_,_,_,rfl,_,hC2.kp,ni g1 g2 (by simp[aj]),fun hb=>⟨ld hb,?_⟩⟩,?_⟩,fun w1 hw1 g1 g2=>?_⟩
 ·have hX:=hC.trans hC2
  have hk3:=hw1.trans hX.kpn
  have g:=hX.kpn.size
  refine eQ (e:=cv) El.el (M:=k2::k1::M) (le hX.kpn (lts hw1 g1 g2)) fun w4 hD=>⟨_,_,_,rfl,_,hD.kp,ni g1 g2 (by simp[aj]),apy hk3 hD.kpn hD.acc fun a4 p4 w5 hD2=>⟨_,_,_,rfl,_,hD2.kp,ni g1 g2 (by simpa[aj]using g),fun w6 hw6=>?_⟩⟩
  have hY:=hD.trans hD2
  exact fin (hk3.trans hY.kpn) (hX.acc.kp0 hY.kpn) hY.acc hw6
 ·have g:=hC.kpn.size
  have b1:w1.heap.size<w2.heap.size:=(hC.acc.blk_lt _ (by simp[aj])).1
  refine eQ (e:=cv) El.el (M:=w1.heap.size::k2::k1::M) (fun b hb=>?_) fun w4 hD=>⟨_,_,_,rfl,_,hD.kp,ni g1 g2 (by simp[aj]),?_⟩
  ·rcases List.mem_cons.1 hb with rfl|hb
   ·exact b1
   ·exact le hC.kpn (lts hw1 g1 g2) b hb
  exact two g1 g2 (Nat.le_refl _) g hw1.size (Nat.le_trans hw1.size g) ((hw1.trans hC.kpn).trans hD.kpn) (hC.acc.cons hD.kpn (Nat.le_refl _) (hD.acc.blk_lt w2.heap.size (by simp[aj])).1) hD.acc
 ·refine eQ (e:=cv) El.el (lts hw1 g1 g2) fun w2 hD=>⟨_,_,_,rfl,_,hD.kp,ni g1 g2 (by simp[aj]),?_⟩
  have g:=hD.kpn.size
  have b1:w1.heap.size<w2.heap.size:=(hD.acc.blk_lt _ (by simp[aj])).1
  refine eQ (e:=tI .i64) zm.el (M:=w1.heap.size::k2::k1::M) (fun b hb=>?_) fun w4 hC=>⟨_,_,_,rfl,_,hC.kp,ni g1 g2 (by simp[aj]),?_⟩
  ·rcases List.mem_cons.1 hb with rfl|hb
   ·exact b1
   ·exact le hD.kpn (lts hw1 g1 g2) b hb
  exact two g1 g2 g (Nat.le_refl _) (Nat.le_trans hw1.size g) hw1.size ((hw1.trans hD.kpn).trans hC.kpn) hC.acc (hD.acc.cons hC.kpn (Nat.le_refl _) (hC.acc.blk_lt w2.heap.size (by simp[aj])).1)
end Go.Vc
namespace Go.Vc
open Go Go.Proofs
theorem zl{M:List Nat}{w w1:World}{k:Nat}(hM:∀b∈M,b<w.heap.size)(hk:KpL [] w w1)(hl:k<w1.heap.size):∀b∈k::M,b<w1.heap.size:=by
 intro b hb
 rcases List.mem_cons.1 hb with rfl|hb
 ·exact hl
 ·exact Nat.lt_of_lt_of_le (hM b hb) hk.size
theorem vB{M M1:List Nat}{w:World}{b:Bt}{ca:Option Addr}{cn cc:Nat}(hM:∀b∈M,b<w.heap.size)(hc:R (au aC) M1 w b.changes [.slice ca cn cc])(hn:b.changes.length<=4096)(hcl:∀c∈b.changes,c.at_.length<=1000/\c.vals.length<=1000):
 Calls Zz 145 #[.agg #[.string b.token,iv b.stamp,.string b.array,.slice ca cn cc]] w fun e w'=>∃a n c,e=.returned (.agg #[.string b.token,iv b.stamp,.string b.array,.slice a n c])/\KpL [] w w'/\R (au aC) M w' b.changes [.slice a n c]:=by
 have hmx:az=140737488355328:=rfl
 obtain⟨rfl,_,_⟩:=hc.sl_len
 refine u6 fun k1 hk1 k2 hk2 k3 hk3=>⟨fun vs w'=>∃(i:Nat) (a:Option Addr) (n c:Nat),vs=[iv (i:Int),.string b.token,iv b.stamp,.string b.array,.slice a n c]/\i<=b.changes.length/\KpL [] w w'/\bI aC (k3::k2::k1::M) w' (b.changes.take i) a n c/\∀x∈aj a,w.heap.size<=x,
  fun vs _=>match vs with|.int _ i::_=>b.changes.length - i.toNat|_=>0,fun w1 hw1 l1 l2 l3 _=>⟨0,none,0,0,rfl,by omega,hw1,bI.nil' _ (zl (zl (zl hM hw1 l1) (KpL.refl _ _) l2) (KpL.refl _ _) l3),by simp[aj]⟩,?_⟩
 rintro n1 s1 n2 s2 a1 k4 k5 w2 l1 l2 l3 _ ⟨i,a,n,c,hv,hi,hk,hA,hnew⟩
 simp only[List.cons.injEq,Value.int.injEq,Value.slice.injEq,Value.string.injEq,true_and,and_true]at hv
 obtain⟨rfl,rfl,rfl,rfl,rfl,rfl,rfl⟩:=hv
 constructor
 ·intro hlt
  have gi:i<b.changes.length:=by omega
  have hlA:=hA.len
  rw[List.length_take,Nat.min_eq_left hi]at hlA
  obtain⟨ad,cs,rfl,hv1,hld1,_,_⟩:=(hc.kp0 hk).sl_get gi
  obtain⟨a6,p6,q6,a7,p7,q7,rfl,hx1,hx2⟩:=hv1.cell
  have hcl':=hcl _ (List.getElem_mem gi)
  have hK:∀x∈aj a1++(k3::k2::k1::M),x<w2.heap.size:=fun x hx=>(List.mem_append.1 hx).elim (fun h=>(hA.blk_lt x h).1) (hA.mlt x)
  refine⟨ad,rfl,by omega,hlt,_,_,_,_,_,_,hld1,⟨(hZ hK hx1 hx2 (by omega) (by omega)).mono ?_⟩⟩
  rintro e w3 ⟨a8,p8,q8,a9,p9,q9,rfl,hk3',hRc⟩
  refine⟨_,_,_,_,_,_,rfl,hk3',fun k14 g14 k15 g15 w4 hk4 l14 l15 hkn=>?_⟩
  have hA4:=(hA.kp0 hk3').kp0 hk4
  have s3:=hk3'.size
  refine aD Et hA4 hkn (hRc.kp0 hk4) (by omega) fun a' c' w5 hC=>⟨_,_,_,rfl,_,hC.kp,⟨⟨fun hm=>?_⟩,⟨fun hm=>?_⟩,hA4.out (by simp),hA4.out (by simp),hA4.out (by simp)⟩,ae.2 (by omega),fun w6 hk6 _=>⟨⟨i+1,a',_,c',rfl,by omega,?_,?_,?_⟩,?_⟩⟩
  ·have:=(hA.blk_lt _ hm).1;omega
  ·have:=(hA.blk_lt _ hm).1;omega
  ·exact(((hk.trans hk3').trans hk4).more hC.kp fun x hx=>.inr (hnew x hx)).more hk6 (by simpa using hk3)
  ·rw[<-List.take_append_getElem gi]
   exact hC.acc.kp hk6 (by simp)
  ·intro x hx
   rcases hC.own x hx with h|h
   ·exact hnew x h
   ·have:=(hk.trans (hk3'.trans hk4)).size;omega
  ·show b.changes.length - ((i:Int)+1).toNat<b.changes.length - (i:Int).toNat
   omega
 ·intro hge w7 hk7
  have hie:i=b.changes.length:=by omega
  subst hie
  rw[List.take_length]at hA
  have hlA:=hA.len
  exact⟨_,_,_,rfl,hk.more hk7 (by simpa using hk2),((hA.done (by omega)).kp hk7 (by simp)).weak fun x hx=>by simp[hx]⟩
theorem BA{M M1 M2 M3:List Nat}{w:World}{x:zj}{a1 a2 a3:Option Addr}{n1 c1 n2 c2 n3 c3:Nat}(hM:∀b∈M,b<w.heap.size)
 (h1:R (au bY) M1 w x.dims [.slice a1 n1 c1])(h2:R (au bw) M2 w x.attrs [.slice a2 n2 c2])(h3:R (au aC) M3 w x.cells [.slice a3 n3 c3])(hd:x.dims.length<=1000)(ha:x.attrs.length<=1000)(hc:x.cells.length<=4096)(hcl:∀c∈x.cells,c.at_.length<=1000/\c.vals.length<=1000):
 Calls Zz 83 #[.agg #[.slice a1 n1 c1,.slice a2 n2 c2,.slice a3 n3 c3]] w fun e w'=>∃b1 p1 q1 b2 p2 q2 b3 p3 q3,e=.returned (.agg #[.slice b1 p1 q1,.slice b2 p2 q2,.slice b3 p3 q3])/\KpL [] w w'/\
  R (au bY) M w' x.dims [.slice b1 p1 q1]/\R (au bw) M w' x.attrs [.slice b2 p2 q2]/\R (au aC) M w' x.cells [.slice b3 p3 q3]:=by
 have hmx:az=140737488355328:=rfl
 obtain⟨rfl,_,_⟩:=h1.sl_len
 obtain⟨rfl,_,_⟩:=h2.sl_len
 obtain⟨rfl,_,_⟩:=h3.sl_len
 refine Bj fun k1 hk1 k2 hk2 w1 hw1 l1 l2=>?_
 have hM1:=zl (zl hM hw1 l1) (KpL.refl _ _) l2
 refine⟨(lA (M:=k2::k1::M) hM1 (h1.kp0 hw1) (h2.kp0 hw1) (by omega) (by omega)).mono ?_⟩
 rintro e w2 ⟨b1,p1,q1,b2,p2,q2,rfl,hk2',r1,r2⟩
 have hw02:=hw1.trans hk2'
 refine⟨_,_,_,_,_,_,_,_,_,rfl,hk2',fun k6 hk6=>⟨fun vs w'=>∃(i:Nat) (a:Option Addr) (n c:Nat),vs=[iv (i:Int),.slice b1 p1 q1,.slice b2 p2 q2,.slice a n c]/\i<=x.cells.length/\KpL [] w w'/\
  R (au bY) (aj a++(k6::k2::k1::M)) w' x.dims [.slice b1 p1 q1]/\R (au bw) (aj a++(k6::k2::k1::M)) w' x.attrs [.slice b2 p2 q2]/\bI aC (k6::k2::k1::M) w' (x.cells.take i) a n c/\∀b∈aj a,w.heap.size<=b,
  fun vs _=>match vs with|.int _ i::_=>x.cells.length - i.toNat|_=>0,fun w4 hw4 l6 _=>⟨0,none,0,0,rfl,by omega,hw02.trans hw4,r1.cons hw4 hk6,r2.cons hw4 hk6,bI.nil' _ (zl hM1 (hk2'.trans hw4) l6),by simp[aj]⟩,?_⟩⟩
 rintro n1 _ _ _ _ _ _ a n c w5 _ _ ⟨i,_,_,_,hv,hi,hk5,g1,g2,hA,hnew⟩
 simp only[List.cons.injEq,Value.int.injEq,Value.slice.injEq,true_and,and_true]at hv
 obtain⟨rfl,⟨rfl,rfl,rfl⟩,⟨rfl,rfl,rfl⟩,rfl,rfl,rfl⟩:=hv
 constructor
 ·intro hlt
  have gi:i<x.cells.length:=by omega
  have hlA:=hA.len
  rw[List.length_take,Nat.min_eq_left hi]at hlA
  obtain⟨ad,cs,rfl,hv1,hld1,_,_⟩:=(h3.kp0 hk5).sl_get gi
  obtain⟨a6,p6,q6,a7,p7,q7,rfl,hx1,hx2⟩:=hv1.cell
  have hcl':=hcl _ (List.getElem_mem gi)
  refine⟨ad,rfl,by omega,hlt,_,_,_,_,_,_,hld1,fun w6 hk6'=>?_⟩
  have hA6:=hA.kp0 hk6'
  have hK6:∀b∈aj a++(k6::k2::k1::M),b<w6.heap.size:=fun y hy=>(List.mem_append.1 hy).elim (fun h=>(hA6.blk_lt y h).1) (hA6.mlt y)
  refine⟨(hZ hK6 (hx1.kp0 hk6') (hx2.kp0 hk6') (by omega) (by omega)).mono ?_⟩
  rintro e w7 ⟨a8,p8,q8,a9,p9,q9,rfl,hk7,hRc⟩
  refine⟨_,_,_,_,_,_,rfl,hk7,fun k22 hk22 w8 hk8 l22 hkn8=>?_⟩
  have hk58:=(hk6'.trans hk7).trans hk8
  have hA8:=hA.kp0 hk58
  have s67:=(hk6'.trans hk7).size
  refine aD Bo hA8 hkn8 (hRc.kp0 hk8) (by omega) fun a' c' w9 hC=>⟨_,_,_,rfl,_,hC.kp,⟨⟨fun hm=>?_⟩,hA8.out (by simp),hA8.out (by simp),hA8.out (by simp)⟩,ae.2 (by omega),fun w10 hk10 _=>⟨⟨i+1,a',_,c',rfl,by omega,?_,(hC.data (g1.kp0 hk58)).kp hk10 (by simp),(hC.data (g2.kp0 hk58)).kp hk10 (by simp),?_,?_⟩,?_⟩⟩
  ·have:=(hA.blk_lt _ hm).1;omega
  ·exact((hk5.trans hk58).more hC.kp fun x hx=>.inr (hnew x hx)).more hk10 fun x hx=>by simp at hx;subst hx;exact .inr (by have:=hw02.size;omega)
  ·rw[<-List.take_append_getElem gi]
   exact hC.acc.kp hk10 (by simp)
  ·intro b hb
   rcases hC.own b hb with h|h
   ·exact hnew b h
   ·have:=(hk5.trans hk58).size;omega
  ·show x.cells.length - ((i:Int)+1).toNat<x.cells.length - (i:Int).toNat
   omega
 ·intro hge w11 hk11
  have hie:i=x.cells.length:=by omega
  subst hie
  rw[List.take_length]at hA
  have hlA:=hA.len
  exact⟨_,_,_,_,_,_,_,_,_,rfl,hk5.more hk11 (by simpa using hk2),(g1.kp hk11 (by simp)).weak (fun b hb=>by simp[hb]),(g2.kp hk11 (by simp)).weak (fun b hb=>by simp[hb]),((hA.done (by omega)).kp hk11 (by simp)).weak fun b hb=>by simp[hb]⟩
theorem zE{c d:aR}(h1:c.at_=d.at_)(h2:c.vals=d.vals):c=d:=by cases c;cases d;simp only at h1 h2;rw[h1,h2]
theorem oG{M M':List Nat}{w:World}{xs ys:List aR}{a b:Option Addr}{n c m q:Nat}(hx:R (au aC) M w xs [.slice a n c])(hy:R (au aC) M' w ys [.slice b m q]):
 Calls Zz 180 #[.slice a n c,.slice b m q] w (aA (.bool (decide (xs=ys))) w):=by
 obtain⟨rfl,_,_⟩:=hx.sl_len
 obtain⟨rfl,_,_⟩:=hy.sl_len
 have hmx:az=140737488355328:=rfl
 have no:∀{w':World},KpL [] w w'->xs≠ys->aA (.bool (decide (xs=ys))) w (.returned (.bool false)) w':=fun hk h=>⟨by rw[decide_eq_false h],hk⟩
 refine oI ⟨fun hne=>no (KpL.refl _ _) (by rintro rfl;exact hne rfl),fun he=>⟨Ix w xs.length fun i=>xs.take i=ys.take i,oF xs.length,Ix.start (KpL.refl _ _) rfl,?_⟩⟩
 have hl:xs.length=ys.length:=by omega
 rintro n1 w1 ⟨i,hv,hi,hk,ht⟩
 obtain rfl:=v1 hv
 constructor
 ·intro hlt
  have h1:i<xs.length:=by omega
  have h2:i<ys.length:=by omega
  have rd:∀{w':World} (_:KpL [] w w'),∃ad a1 n1 c1 a2 n2 c2 ad' a3 n3 c3 a4 n4 c4,a=some ad/\b=some ad'/\ao w' ((ad.add (i*2)).add 0) [.slice a1 n1 c1]/\ao w' ((ad.add (i*2)).add 1) [.slice a2 n2 c2]/\ao w' ((ad'.add (i*2)).add 0) [.slice a3 n3 c3]/\ao w' ((ad'.add (i*2)).add 1) [.slice a4 n4 c4]/\
   R (au (tI .i64)) M w' xs[i].at_ [.slice a1 n1 c1]/\R (au cv) M w' xs[i].vals [.slice a2 n2 c2]/\R (au (tI .i64)) M' w' ys[i].at_ [.slice a3 n3 c3]/\R (au cv) M' w' ys[i].vals [.slice a4 n4 c4]:=by
   intro w' hk'
   obtain⟨ad,cs,rfl,hv1,_,_,_,hpt⟩:=(hx.kp0 hk').sl_get2 h1
   obtain⟨ad',cs',rfl,hv2,_,_,_,hpt'⟩:=(hy.kp0 hk').sl_get2 h2
   obtain⟨a1,n1,c1,a2,n2,c2,rfl,x1,x2⟩:=hv1.cell
   obtain⟨a3,n3,c3,a4,n4,c4,rfl,y1,y2⟩:=hv2.cell
   exact⟨ad,a1,n1,c1,a2,n2,c2,ad',a3,n3,c3,a4,n4,c4,rfl,rfl,hpt 0 [_] rfl,hpt 1 [_] rfl,hpt' 0 [_] rfl,hpt' 1 [_] rfl,x1,x2,y1,y2⟩
  obtain⟨ad,a1,p1,q1,_,_,_,ad',a3,p3,q3,_,_,_,e1,e2,l1,_,l3,_,x1,_,y1,_⟩:=rd hk
  refine⟨ad,e1,by omega,hlt,a1,p1,q1,l1,ad',e2,by omega,by omega,a3,p3,q3,l3,fun w2 hw2=>⟨(gS (x1.kp0 hw2) (y1.kp0 hw2)).mono ?_⟩⟩
  rintro e w3 ⟨rfl,hk3⟩
  have hk03:=(hk.trans hw2).trans hk3
  refine⟨_,rfl,hk3,fun hb=>?_,fun hb=>no hk03 (dU h1 h2 fun hc=>by rw[hc]at hb;simp at hb)⟩
  obtain⟨ad,_,_,_,a1,p1,q1,ad',_,_,_,a3,p3,q3,e1,e2,_,l1,_,l3,_,x1,_,y1⟩:=rd hk03
  refine⟨ad,e1,by omega,hlt,a1,p1,q1,l1,ad',e2,by omega,by omega,a3,p3,q3,l3,⟨(qA x1 y1).mono ?_⟩⟩
  rintro e w4 ⟨rfl,hk4⟩
  refine⟨_,rfl,hk4,fun hb2=>no (hk03.trans hk4) (dU h1 h2 fun hc=>by rw[hc]at hb2;simp at hb2),fun hb2=>Ix.next h1 (by omega) (hk03.trans hk4) (eJ h1 h2 ht (zE (of_decide_eq_true (eP hb)) (of_decide_eq_true (eP hb2))))⟩
 ·intro hge
  rw[List.take_of_length_le (by omega),List.take_of_length_le (by omega)]at ht
  exact⟨by rw[decide_eq_true ht],hk⟩
theorem xX{M M':List Nat}{w:World}{x y:zj}{cs cs':List Value}(hx:R uY M w x cs)(hy:R uY M' w y cs'):
 Calls Zz 146 #[.agg cs.toArray,.agg cs'.toArray] w (aA (.bool (decide (x=y))) w):=by
 obtain⟨a1,n1,c1,a2,n2,c2,a3,n3,c3,rfl,x1,x2,x3⟩:=hx.arr
 obtain⟨b1,m1,d1,b2,m2,d2,b3,m3,d3,rfl,y1,y2,y3⟩:=hy.arr
 have e:(x=y)=(x.dims=y.dims/\x.attrs=y.attrs/\x.cells=y.cells):=by cases x;cases y;simp
 simp only[e,Bool.decide_and]
 refine yC fun _ _ _ _ w1 hw1=>⟨(qm (x1.kp0 hw1) (y1.kp0 hw1)).mono ?_⟩
 rintro e w2 ⟨rfl,h2⟩
 have hk2:=hw1.trans h2
 refine⟨_,rfl,h2,fun hb=>⟨(oL (x2.kp0 hk2) (y2.kp0 hk2)).mono ?_⟩,fun hb=>⟨by rw[hb];rfl,hk2⟩⟩
 rintro e w3 ⟨rfl,h3⟩
 have hk3:=hk2.trans h3
 refine⟨_,rfl,h3,fun hb2=>⟨(oG (x3.kp0 hk3) (y3.kp0 hk3)).mono ?_⟩,fun hb2=>⟨by rw[hb,hb2];rfl,hk3⟩⟩
 rintro e w4 ⟨rfl,h4⟩
 exact⟨_,rfl,h4,by rw[hb,hb2];rfl,hk3.trans h4⟩
theorem BN{c d:Nm}(h1:c.name=d.name)(h2:c.arr=d.arr):c=d:=by cases c;cases d;simp only at h1 h2;rw[h1,h2]
theorem uC{M M':List Nat}{w:World}{xs ys:List Nm}{a b:Option Addr}{n c m q:Nat}(hx:R (au gG) M w xs [.slice a n c])(hy:R (au gG) M' w ys [.slice b m q]):
 Calls Zz 87 #[.slice a n c,.slice b m q] w (aA (.bool (decide (xs=ys))) w):=by
 obtain⟨rfl,_,_⟩:=hx.sl_len
 obtain⟨rfl,_,_⟩:=hy.sl_len
 have hmx:az=140737488355328:=rfl
 have no:∀{w':World},KpL [] w w'->xs≠ys->aA (.bool (decide (xs=ys))) w (.returned (.bool false)) w':=fun hk h=>⟨by rw[decide_eq_false h],hk⟩
 refine uR ⟨fun hne=>no (KpL.refl _ _) (by rintro rfl;exact hne rfl),fun he=>⟨Ix w xs.length fun i=>xs.take i=ys.take i,oF xs.length,Ix.start (KpL.refl _ _) rfl,?_⟩⟩
 have hl:xs.length=ys.length:=by omega
 rintro n1 w1 ⟨i,hv,hi,hk,ht⟩
 obtain rfl:=v1 hv
 constructor
 ·intro hlt
  have h1:i<xs.length:=by omega
  have h2:i<ys.length:=by omega
  obtain⟨ad,cs,rfl,hv1,_,_,_,hpt⟩:=(hx.kp0 hk).sl_get2 h1
  obtain⟨ad',cs',rfl,hv2,_,_,_,hpt'⟩:=(hy.kp0 hk).sl_get2 h2
  obtain⟨a1,p1,q1,a2,p2,q2,a3,p3,q3,rfl,_,x1,x2,x3⟩:=hv1.nm
  obtain⟨b1,r1,s1,b2,r2,s2,b3,r3,s3,rfl,_,y1,y2,y3⟩:=hv2.nm
  refine⟨ad,rfl,by omega,hlt,_,hpt 0 [_] rfl,ad',rfl,by omega,by omega,_,hpt' 0 [_] rfl,fun hq=>⟨ad,rfl,by omega,hlt,_,_,_,_,_,_,_,_,_,hpt 1 [_,_,_] rfl,ad',rfl,by omega,by omega,_,_,_,_,_,_,_,_,_,hpt' 1 [_,_,_] rfl,fun w2 hw2=>⟨(xX ((R.mkArr x1 x2 x3).kp0 hw2) ((R.mkArr y1 y2 y3).kp0 hw2)).mono ?_⟩⟩,fun hq w4 hw4=>no (hk.trans hw4) (dU h1 h2 fun hc=>hq (by rw[hc]))⟩
  rintro e w3 ⟨rfl,hk3⟩
  have hk03:=(hk.trans hw2).trans hk3
  exact⟨_,rfl,hk3,fun hb=>no hk03 (dU h1 h2 fun hc=>by rw[hc]at hb;simp at hb),fun hb=>Ix.next h1 (by omega) hk03 (eJ h1 h2 ht (BN (Classical.not_not.1 hq) (of_decide_eq_true (eP hb))))⟩
 ·intro hge
  rw[List.take_of_length_le (by omega),List.take_of_length_le (by omega)]at ht
  exact⟨by rw[decide_eq_true ht],hk⟩
end Go.Vc
namespace Go.Vc
open Go Go.Proofs
theorem qq{x y z:List Int}(h1:aY x y<0)(h2:aY y z<=0):aY x z<0:=by
 have h:=eF (Int.le_of_lt h1) h2
 by_cases he:aY x z=0
 ·rw[bB]at he
  subst he
  have:=cz x y
  omega
 ·omega
theorem pT{α:Type}{xs:List α}{i:Nat}(h:i<xs.length):xs[i]∈xs.drop i:=by rw[List.drop_eq_getElem_cons h];exact List.mem_cons_self ..
theorem i9{xs:List aR}(h:bq xs){m:Nat}(hm:m<xs.length):(∀c∈xs.take m,aY c.at_ xs[m].at_<0)/\∀c∈xs.drop (m+1),aY xs[m].at_ c.at_<0:=by
 have e:xs.take m++xs[m]::xs.drop (m+1)=xs:=by rw[<-List.drop_eq_getElem_cons hm,List.take_append_drop]
 unfold bq at h
 rw[<-e,List.pairwise_append,List.pairwise_cons]at h
 exact⟨fun c hc=>h.2.2 c hc _ (List.mem_cons_self ..),h.2.1.1⟩
theorem o0{M M':List Nat}{w:World}{xs:List aR}{at_:List Int}{a b:Option Addr}{n c m q:Nat}(hx:R (au aC) M w xs [.slice a n c])(hy:R (au (tI .i64)) M' w at_ [.slice b m q])(hs:bq xs):
 Calls Zz 182 #[.slice a n c,.slice b m q] w fun e w'=>KpL [] w w'/\∃i:Nat,e=.returned (iv i)/\i<=xs.length/\(∀c∈xs.take i,aY c.at_ at_<0)/\∀c∈xs.drop i,¬aY c.at_ at_<0:=by
 obtain⟨rfl,_,_⟩:=hx.sl_len
 have hmx:az=140737488355328:=rfl
 refine xQ ⟨fun vs w'=>∃lo hi:Nat,vs=[iv (lo:Int),iv (hi:Int)]/\lo<=hi/\hi<=xs.length/\KpL [] w w'/\(∀c∈xs.take lo,aY c.at_ at_<0)/\∀c∈xs.drop hi,¬aY c.at_ at_<0,
  fun vs _=>match vs with|[.int _ l,.int _ h]=>(h - l).toNat|_=>0,⟨0,xs.length,rfl,by omega,by omega,KpL.refl _ _,by simp,by simp⟩,?_⟩
 rintro n1 n2 w1 ⟨lo,hi,hv,g1,g2,hk,hlo,hhi⟩
 simp only[List.cons.injEq,Value.int.injEq,true_and,and_true]at hv
 obtain⟨rfl,rfl⟩:=hv
 constructor
 ·intro hlt
  have em:IntKind.i64.wrap (Int.tdiv ((lo:Int)+hi) 2)=((lo+hi) / 2:Nat):=by
   rw[Int.tdiv_eq_ediv_of_nonneg (by omega),aE (ae.2 (by omega))];omega
  rw[em]
  generalize hmid:(lo+hi) / 2=mid at *
  have gm:mid<xs.length:=by omega
  obtain⟨h1,h2⟩:=i9 hs gm
  obtain⟨ad,cs,rfl,hv1,_,_,_,hpt⟩:=(hx.kp0 hk).sl_get2 gm
  obtain⟨b1,p1,q1,b2,p2,q2,rfl,x1,_⟩:=hv1.cell
  refine⟨ae.2 (by omega),by omega,ad,rfl,by omega,by omega,b1,p1,q1,hpt 0 [_] rfl,⟨(fQ x1 (hy.kp0 hk)).mono ?_⟩⟩
  rintro e w2 ⟨rfl,hk2⟩
  refine⟨_,rfl,hk2,fun hc=>⟨ae.2 (by omega),⟨mid+1,hi,by simp,by omega,g2,hk.trans hk2,fun d hd=>?_,hhi⟩,by dsimp only;omega⟩,fun hc=>⟨⟨lo,mid,rfl,by omega,by omega,hk.trans hk2,hlo,fun d hd=>?_⟩,by dsimp only;omega⟩⟩
  ·rw[<-List.take_append_getElem gm,List.mem_append,List.mem_singleton]at hd
   rcases hd with hd|rfl
   ·exact qq (h1 d hd) (by omega)
   ·exact hc
  ·rw[List.drop_eq_getElem_cons gm,List.mem_cons]at hd
   rcases hd with rfl|hd
   ·exact hc
   ·exact fun hl=>hc (qq (h2 d hd) (by omega))
 ·intro hge
  obtain rfl:lo=hi:=by omega
  exact⟨hk,lo,rfl,g2,hlo,hhi⟩
theorem ua{M M':List Nat}{w:World}{xs:List aR}{at_:List Int}{a b:Option Addr}{n c m q:Nat}(hx:R (au aC) M w xs [.slice a n c])(hy:R (au (tI .i64)) M' w at_ [.slice b m q])(hs:bq xs)(hin:at_∈xs.map (·.at_)):
 Calls Zz 148 #[.slice a n c,.slice b m q] w fun e w'=>KpL [] w w'/\∃(i:Nat) (h:i<xs.length),e=.returned (iv i)/\xs[i].at_=at_:=by
 obtain⟨rfl,_,_⟩:=hx.sl_len
 refine vC ⟨(o0 hx hy hs).mono ?_⟩
 rintro e w1 ⟨hk1,i,rfl,hi,hlo,hhi⟩
 obtain⟨d,hd,rfl⟩:=List.mem_map.1 hin
 have hzero:aY d.at_ d.at_=0:=bB.2 rfl
 have hdd:d∈xs.drop i:=by
  rw[<-List.take_append_drop i xs,List.mem_append]at hd
  exact hd.resolve_left fun h=>by have:=hlo d h;omega
 have gi:i<xs.length:=Nat.lt_of_not_le fun h=>by rw[List.drop_eq_nil_of_le h]at hdd;cases hdd
 have heq:xs[i].at_=d.at_:=by
  have h1:=hhi xs[i] (pT gi)
  rw[List.drop_eq_getElem_cons gi,List.mem_cons]at hdd
  rcases hdd with e|h2
  ·rw[<-e]
  ·have:=(i9 hs gi).2 d h2
   omega
 refine⟨_,rfl,hk1,fun hlt=>?_,fun hge=>by omega⟩
 obtain⟨ad,cs,rfl,hv1,_,_,_,hpt⟩:=(hx.kp0 hk1).sl_get2 gi
 obtain⟨b1,p1,q1,b2,p2,q2,rfl,x1,_⟩:=hv1.cell
 refine⟨ad,rfl,by omega,hlt,b1,p1,q1,hpt 0 [_] rfl,⟨(fQ x1 (hy.kp0 hk1)).mono ?_⟩⟩
 rintro e w2 ⟨rfl,hk2⟩
 exact⟨_,rfl,hk2,fun _=>⟨hk1.trans hk2,i,gi,rfl,heq⟩,fun hne=>absurd (bB.2 heq) hne⟩
theorem bI.setC{M:List Nat}{w:World}{xs:List aR}{ad:Addr}{n c:Nat}(h:bI aC M w xs (some ad) n c){i:Nat}(hi:i<xs.length){x:aR}{cs:List Value}(hx:R aC (ad.block::M) w x cs):
 (∃l,ao w (ad.add (i*2)) l/\l.length=2)/\aq w (ad.add (i*2)) 2/\(ad.add (i*2)).block=ad.block/\bI aC M (bL w (ad.add (i*2)) cs 0) (xs.set i x) (some ad) n c/\KpL [ad.block] w (bL w (ad.add (i*2)) cs 0):=by
 obtain⟨b,arr,T,rfl,hbM,hb,hsz,hel⟩:=h.at_ ad rfl
 have hn:=h.len
 have hcap:=h.cap
 have hz:aC.sz=2:=rfl
 have hl:cs.length=2:=hx.len
 rw[hz]at hsz
 rw[al,Nat.zero_add]
 have hb':w.heap[b]?=some (.cells arr.toList.toArray T (0,0)):=by simpa using hb
 have hsl:arr.toList.length=c*2:=by simpa using hsz
 have hst:=cL (off:=i*2) (l:=cs) hb' (by omega)
 have hkp:=cK w ⟨b,i*2,none⟩ cs
 refine⟨⟨(arr.toList.drop (i*2)).take 2,ak hb' _ _ (by congr 1;simp;omega),by simp;omega⟩,bE hb,rfl,⟨by simp[hn],hcap,fun y hy=>Nat.lt_of_lt_of_le (h.mlt y hy) hkp.size,fun hc=>(by cases hc),fun ad' had=>?_⟩,hkp⟩
 simp only[Option.some.injEq]at had
 subst had
 refine⟨b,_,T,rfl,hbM,hst,by rw[hz];simp;omega,fun j y hy=>?_⟩
 rw[List.toList_toArray,hl]
 rw[List.getElem?_set]at hy
 split at hy
 ·rename_i hij
  subst hij
  simp only[Option.some.injEq]at hy
  subst hy
  refine⟨cs,hx.kp hkp (by simp),fun t v hv=>?_⟩
  have ht:t<2:=by have:=(List.getElem?_eq_some_iff.1 hv).1;omega
  rw[hz,List.getElem?_append_right (by simp;omega),List.getElem?_append_left (by simp;omega),<-hv]
  congr 1
  simp
  omega
 ·rename_i hij
  obtain⟨cs2,h5,h6⟩:=hel j y hy
  refine⟨cs2,R.kp (M:=b::M) h5 hkp (by simp),fun t v hv=>?_⟩
  have h7:=h6 t v hv
  have ht:t<2:=by have:=(List.getElem?_eq_some_iff.1 hv).1;have:cs2.length=2:=aC.len h5;omega
  rw[hz]at h7 ⊢
  rw[<-h7]
  have hjl:j<xs.length:=(List.getElem?_eq_some_iff.1 hy).1
  by_cases hlt:j<i
  ·rw[List.getElem?_append_left (by simp;omega),List.getElem?_take,if_pos (by omega)]
  ·rw[List.getElem?_append_right (by simp;omega),List.getElem?_append_right (by simp;omega),List.getElem?_drop]
   congr 1
   simp
   omega
theorem tg{xs:List aR}(h:bq xs){c d:aR}(hc:c∈xs)(hd:d∈xs)(he:c.at_=d.at_):c=d:=by
 obtain⟨i,hi,rfl⟩:=List.getElem_of_mem hc
 obtain⟨j,hj,rfl⟩:=List.getElem_of_mem hd
 have key:∀{i j:Nat} (hi:i<xs.length) (hj:j<xs.length),xs[i].at_=xs[j].at_->¬i<j:=by
  intro i j hi hj he hlt
  have:=List.pairwise_iff_getElem.1 h i j hi hj hlt
  rw[bB.2 he]at this
  omega
 have h1:=key hi hj he
 have h2:=key hj hi he.symm
 obtain rfl:i=j:=by omega
 rfl
theorem AH{M:List Nat}{w:World}{xs:List aR}{c:aR}{a c1 c2:Option Addr}{n q n1 q1 n2 q2:Nat}(hM:∀b∈M,b<w.heap.size)(hx:R (au aC) M w xs [.slice a n q])(hc:R aC M w c [.slice c1 n1 q1,.slice c2 n2 q2])(hs:bq xs)(hl:xs.length<=100000):
 Calls Zz 174 #[.slice a n q,.agg #[.slice c1 n1 q1,.slice c2 n2 q2]] w fun e w'=>KpL [] w w'/\∃a' n' q' ys,e=.returned (.slice a' n' q')/\R (au aC) M w' ys [.slice a' n' q']/\bq ys/\ys.length<=xs.length+1/\∀p,p∈ys.map (·.at_)↔p=c.at_∨p∈xs.map (·.at_):=by
 obtain⟨rfl,_,_⟩:=hx.sl_len
 have hmx:az=140737488355328:=rfl
 obtain⟨_,_,_,_,_,_,e,x1,x2⟩:=hc.cell
 simp only[List.cons.injEq,Value.slice.injEq,and_true]at e
 obtain⟨⟨rfl,rfl,rfl⟩,rfl,rfl,rfl⟩:=e
 refine BB fun k1 hk1 w1 hw1 l1=>⟨(o0 (hx.kp0 hw1) (x1.kp0 hw1) hs).mono ?_⟩
 have hM1:=zl hM hw1 l1
 rintro e w2 ⟨hk2,i,rfl,hi,hlo,hhi⟩
 have hw2:=hw1.trans hk2
 refine⟨_,rfl,hk2,fun vs w'=>KpL [] w2 w'/\∀d∈xs.drop i,0<aY d.at_ c.at_,⟨fun hlt=>?_,fun hge w8 hw8=>⟨hw8,by rw[List.drop_eq_nil_of_le (by omega)];simp⟩⟩,?_⟩
 ·have gi:i<xs.length:=by omega
  obtain⟨m1,m2⟩:=i9 hs gi
  obtain⟨ad,cs,rfl,hv1,_,_,_,hpt⟩:=(hx.kp0 hw2).sl_get2 gi
  obtain⟨b1,p1,r1,b2,p2,r2,rfl,y1,_⟩:=hv1.cell
  refine⟨ad,rfl,by omega,hlt,b1,p1,r1,hpt 0 [_] rfl,fun w3 hw3=>⟨(fQ (y1.kp0 hw3) ((x1.kp0 hw2).kp0 hw3)).mono ?_⟩⟩
  rintro e w4 ⟨rfl,hk4⟩
  have hw4:=(hw2.trans hw3).trans hk4
  have hM4:∀b∈k1::M,b<w4.heap.size:=zl hM hw4 (by have:=hk2.size;have:=(hw3.trans hk4).size;omega)
  refine⟨_,rfl,hk4,fun hz=>?_,fun hnz=>⟨hw3.trans hk4,fun d hd=>?_⟩⟩
  ·have hat:=bB.1 hz
   have hx4:R (au aC) (k1::M) w4 xs _:=(hx.cons hw1 hk1).kp0 (((hk2.trans hw3).trans hk4))
   have hc4:R aC (k1::M) w4 c _:=(hc.cons hw1 hk1).kp0 (((hk2.trans hw3).trans hk4))
   refine wD (M:=k1::M) (xs:=xs) Bo hM4 hx4.srcsM (by omega:(2*xs.length+768)*48<=_) (fun l hl=>⟨fun h=>by have:=hl _ h;have:=hM4 k1 (by simp);omega⟩) fun a3 c3 w6 hC=>?_
   have hlA:=hC.acc.len
   have hne:a3≠none:=fun h=>by have:=hC.acc.nil h;have:=hC.acc.cap;omega
   obtain⟨d2,rfl⟩:∃d,a3=some d:=by cases a3 with|none=>exact absurd rfl hne|some d=>exact⟨d,rfl⟩
   obtain⟨s1,s2,s3,s4,s5⟩:=hC.acc.setC (i:=i) gi (x:=c) (hC.old hc4)
   refine⟨d2,rfl,by omega,by omega,s1,s2,?_,fun w7 hw7=>?_⟩
   ·have:=hC.acc.out (k:=k1) (by simp)
    have e2:aj (some d2)=[(d2.add (((i:Int)).toNat*2)).block]:=by rw[show((i:Int)).toNat=i from rfl,s3];rfl
    rw[<-e2]
    exact this
   ·subst hw7
    have hset:(xs.set i c).map (·.at_)=xs.map (·.at_):=by
     rw[List.map_set,<-hat]
     refine List.ext_getElem (by simp) fun j h1 h2=>?_
     rw[List.getElem_set]
     split
     ·rename_i hij;subst hij;simp
     ·rfl
    refine⟨hw4.more (hC.kpn.more s5 fun b hb=>.inr ?_) fun b hb=>(by simp at hb),_,_,_,xs.set i c,rfl,(s4.done (by omega)).weak (fun b hb=>by simp[hb]),?_,by simp,fun p=>?_⟩
    ·simp only[List.mem_singleton]at hb
     subst hb
     exact(hC.own _ (by simp[aj])).resolve_left (by simp[aj])
    ·have hs':(xs.map (·.at_)).Pairwise fun x y=>aY x y<0:=List.pairwise_map.2 hs
     rw[<-hset]at hs'
     exact List.pairwise_map.1 hs'
    ·rw[hset]
     refine⟨.inr,fun h=>h.elim (fun h=>?_) id⟩
     rw[h,<-hat]
     exact List.mem_map.2 ⟨_,List.getElem_mem gi,rfl⟩
  ·have h1:=hhi d hd
   rw[List.drop_eq_getElem_cons gi,List.mem_cons]at hd
   rcases hd with rfl|hd
   ·omega
   ·have h3:=m2 d hd
    have h4:=hhi xs[i] (pT gi)
    have h5:=cz d.at_ c.at_
    have h6:=cz xs[i].at_ c.at_
    have:=qq (x:=c.at_) (y:=xs[i].at_) (z:=d.at_) (by omega) (by omega)
    omega
 ·rintro w9 ⟨hw9,hgt⟩
  have hk9:=hw2.trans hw9
  have hM9:∀b∈k1::M,b<w9.heap.size:=zl hM hk9 (by have:=(hk2.trans hw9).size;omega)
  have hx9:R (au aC) (k1::M) w9 xs _:=(hx.cons hw1 hk1).kp0 (hk2.trans hw9)
  have hc9:R aC (k1::M) w9 c _:=(hc.cons hw1 hk1).kp0 (hk2.trans hw9)
  refine eQ (e:=aC) Bo.el hM9 fun w10 hC=>⟨_,_,_,rfl,_,hC.kp,⟨by simp[aj]⟩,?_⟩
  refine⟨_,_,_,dq (P:=Zz) Bo.el (l:=0) (h:=i) (.inr ⟨rfl,rfl⟩) (.inl rfl) (by omega) (by omega),?_⟩
  have hsub:=hx9.sub 0 i (by omega) hi
  rw[List.drop_zero,Nat.sub_zero]at hsub
  obtain⟨ly,hS⟩:=((hC.old hsub)).srcs (P:=Zz)
  refine cN (ys:=xs.take i) (ly:=ly) Bo hC.acc hS (by omega:(2*(0+i)+768)*48<=_) fun a6 c6 w11 hC2=>⟨_,_,_,rfl,_,hC2.kp,⟨by simp[aj];have:=hM9 k1 (by simp);omega⟩,fun k14 g14 w12 hw12 l14 hkn=>?_⟩
  have hD:=(hC.trans hC2).kp0 hw12
  refine aD Bo hD.acc hkn (hD.old hc9) (by omega) fun a7 c7 w13 hC3=>⟨_,_,_,rfl,_,hC3.kp,⟨⟨fun hm=>?_⟩,hD.acc.out (by simp)⟩,?_⟩
  ·have:=((hC.trans hC2).acc.blk_lt _ hm).1;omega
  have hE:=hD.trans hC3
  refine⟨_,_,_,dq (P:=Zz) Bo.el (l:=i) (h:=xs.length) (.inl rfl) (.inr ⟨rfl,rfl⟩) (by omega) (by omega),?_⟩
  have hsub2:=hx9.sub i xs.length hi (by omega)
  rw[List.take_of_length_le (by simp)]at hsub2
  obtain⟨ly2,hS2⟩:=((hE.old hsub2)).srcs (P:=Zz)
  refine cN (ys:=xs.drop i) (ly:=ly2) Bo hE.acc hS2 (by omega:(2*(0+i+1+(xs.length - i))+768)*48<=_) fun a9 c9 w14 hC4=>⟨_,_,_,rfl,_,hC4.kp,⟨⟨fun hm=>?_⟩,hE.acc.out (by simp)⟩,?_⟩
  ·rcases hC3.own _ hm with h|h
   ·have:=((hC.trans hC2).acc.blk_lt _ h).1;omega
   ·omega
  have hF:=hE.trans hC4
  have hlA:=hF.acc.len
  refine⟨hk9.trans hF.kpn,_,_,_,_,rfl,(hF.acc.done (by omega)).weak (fun b hb=>by simp[hb]),?_,by simp;omega,fun p=>?_⟩
  ·unfold bq
   have hs2:=hs
   unfold bq at hs2
   rw[<-List.take_append_drop i xs,List.pairwise_append]at hs2
   rw[List.nil_append,List.append_assoc,List.pairwise_append]
   refine⟨hs2.1,by rw[List.singleton_append,List.pairwise_cons];exact⟨fun d hd=>by have:=hgt d hd;have:=cz d.at_ c.at_;omega,hs2.2.1⟩,fun d hd d' hd'=>?_⟩
   rw[List.singleton_append,List.mem_cons]at hd'
   rcases hd' with rfl|hd'
   ·exact hlo d hd
   ·exact hs2.2.2 d hd d' hd'
  ·rw[List.nil_append,List.map_append,List.map_append,List.mem_append,List.mem_append,List.map_cons,List.map_nil,List.mem_singleton]
   have e:xs.map (·.at_)=(xs.take i).map (·.at_)++(xs.drop i).map (·.at_):=by rw[<-List.map_append,List.take_append_drop]
   rw[e,List.mem_append]
   constructor
   ·rintro((h|h)|h)
    ·exact .inr (.inl h)
    ·exact .inl h
    ·exact .inr (.inr h)
   ·rintro(h|h|h)
    ·exact .inl (.inr h)
    ·exact .inl (.inl h)
    ·exact .inr h
end Go.Vc
namespace Go.Vc
open Go Go.Proofs
section
variable {M N:List Nat} {w w':World} {r:Nat} {n u:Int} {first:List Nm} {l:List Bt} (h:aT M w r n first l u)
include h
theorem aT.kp(hk:KpL N w w')(hs:∀b∈N,b∈M):aT M w' r n first l u:=by
 obtain⟨a,p,q,b,m,c,h1,h2,h3,h4⟩:=h
 exact⟨a,p,q,b,m,c,(hk.blk r (ab h1) fun hr=>h2 (hs r hr)).trans h1,h2,h3.kp hk fun b hb=>List.mem_cons_of_mem _ (hs b hb),h4.kp hk fun b hb=>List.mem_cons_of_mem _ (hs b hb)⟩
theorem aT.kp0(hk:KpL [] w w'):aT M w' r n first l u:=h.kp hk (by simp)
theorem aT.ldF:∃a q,ao w ((Addr.mk r 0 none).add 1) [.slice a first.length q]/\R (au gG) (r::M) w first [.slice a first.length q]:=by
 obtain⟨a,p,q,b,m,c,h1,h2,h3,h4⟩:=h
 obtain⟨rfl,_,_⟩:=h3.sl_len
 exact⟨a,q,by rw[al];exact ak h1 1 [_] rfl,h3⟩
theorem aT.ldL:∃a q,ao w ((Addr.mk r 0 none).add 2) [.slice a l.length q]/\R (au B8) (r::M) w l [.slice a l.length q]:=by
 obtain⟨a,p,q,b,m,c,h1,h2,h3,h4⟩:=h
 obtain⟨rfl,_,_⟩:=h4.sl_len
 exact⟨b,c,by rw[al];exact ak h1 2 [_] rfl,h4⟩
theorem aT.nm{k:Nat}(hk:k<first.length):∃d q b1 p1 q1 b2 p2 q2 b3 p3 q3,ao w ((Addr.mk r 0 none).add 1) [.slice (some d) first.length q]/\ao w ((d.add (k*4)).add 0) [.string first[k].name]/\
 ao w ((d.add (k*4)).add 1) [.slice b1 p1 q1,.slice b2 p2 q2,.slice b3 p3 q3]/\ao w (((d.add (k*4)).add 1).add 0) [.slice b1 p1 q1]/\ao w (((d.add (k*4)).add 1).add 1) [.slice b2 p2 q2]/\ao w (((d.add (k*4)).add 1).add 2) [.slice b3 p3 q3]/\
 R (au bY) (r::M) w first[k].arr.dims [.slice b1 p1 q1]/\R (au bw) (r::M) w first[k].arr.attrs [.slice b2 p2 q2]/\R (au aC) (r::M) w first[k].arr.cells [.slice b3 p3 q3]:=by
 obtain⟨a,q,h1,h2⟩:=h.ldF
 obtain⟨ad,cs,rfl,hv1,_,_,_,hpt⟩:=h2.sl_get2 hk
 obtain⟨b1,p1,q1,b2,p2,q2,b3,p3,q3,rfl,_,x1,x2,x3⟩:=hv1.nm
 refine⟨ad,q,b1,p1,q1,b2,p2,q2,b3,p3,q3,h1,hpt 0 [_] rfl,hpt 1 [_,_,_] rfl,?_,?_,?_,x1,x2,x3⟩<;>rw[kC]
 ·exact hpt 1 [_] rfl
 ·exact hpt 2 [_] rfl
 ·exact hpt 3 [_] rfl
theorem aT.bat{j:Nat}(hj:j<l.length):∃d q a p c,ao w ((Addr.mk r 0 none).add 2) [.slice (some d) l.length q]/\ao w (d.add (j*4)) [.string l[j].token,iv l[j].stamp,.string l[j].array,.slice a p c]/\ao w ((d.add (j*4)).add 0) [.string l[j].token]/\ao w ((d.add (j*4)).add 2) [.string l[j].array]/\
 ao w ((d.add (j*4)).add 3) [.slice a p c]/\R (au aC) (r::M) w l[j].changes [.slice a p c]/\l[j].token.size<=9223372036854775807:=by
 obtain⟨a,q,h1,h2⟩:=h.ldL
 obtain⟨ad,cs,rfl,hv1,hld,_,_,hpt⟩:=h2.sl_get2 hj
 obtain⟨xa,xn,xc,rfl,g1,_,_,x1⟩:=hv1.bt
 exact⟨ad,q,xa,xn,xc,h1,hld,hpt 0 [_] rfl,hpt 2 [_] rfl,hpt 3 [_] rfl,x1,g1⟩
end
def kD(x:Nm)(l:List Bt)(p:List Int):Prop:=p∈x.arr.cells.map (·.at_)∨∃b∈l,b.array=x.name/\p∈b.changes.map (·.at_)
structure xA (M:List Nat) (w:World) (ys:List aR) (v:Value) (N:Nat):Prop where
 rd:R (au aC) M w ys [v]
 so:bq ys
 len:ys.length<=N
theorem xA.kp0{M:List Nat}{w w':World}{ys:List aR}{v:Value}{N:Nat}(h:xA M w ys v N)(hk:KpL [] w w'):xA M w' ys v N:=⟨h.rd.kp0 hk,h.so,h.len⟩
theorem xA.mono{M:List Nat}{w:World}{ys:List aR}{v:Value}{N N':Nat}(h:xA M w ys v N)(hn:N<=N'):xA M w ys v N':=⟨h.rd,h.so,Nat.le_trans h.len hn⟩
theorem xA.put{M:List Nat}{w:World}{xs:List aR}{c:aR}{a c1 c2:Option Addr}{n q n1 q1 n2 q2 N:Nat}(h:xA M w xs (.slice a n q) N)(hM:∀b∈M,b<w.heap.size)(h1:R (au (tI .i64)) M w c.at_ [.slice c1 n1 q1])(h2:R (au cv) M w c.vals [.slice c2 n2 q2])(hl:N<=100000):
 Calls Zz 174 #[.slice a n q,.agg #[.slice c1 n1 q1,.slice c2 n2 q2]] w fun e w'=>KpL [] w w'/\∃a' n' q' ys,e=.returned (.slice a' n' q')/\xA M w' ys (.slice a' n' q') (N+1)/\∀p,p∈ys.map (·.at_)↔p=c.at_∨p∈xs.map (·.at_):=by
 have:=h.len
 refine(AH hM h.rd (R.mkCell h1 h2) h.so (by omega)).mono ?_
 rintro e w' ⟨hk,a',n',q',ys,rfl,g1,g2,g3,g4⟩
 exact⟨hk,a',n',q',ys,rfl,⟨g1,g2,by omega⟩,g4⟩
theorem Fv:oe Zz 226 226 78 1 24:=bM (by kernel_rfl)
theorem lb{α:Type}{f:α->List Int}{xs:List α}{i:Nat}(hi:i<xs.length){p:List Int}:p∈(xs.take (i+1)).map f↔p=f xs[i]∨p∈(xs.take i).map f:=by
 rw[<-List.take_append_getElem hi,List.map_append,List.mem_append,List.map_cons,List.map_nil,List.mem_singleton]
 exact Or.comm
theorem ol{M:List Nat}{w:World}{r:Nat}{n u:Int}{first:List Nm}{l:List Bt}(h:aT M w r n first l u)(hM:∀b∈M,b<w.heap.size){k:Nat}(hk:k<first.length)(hc:first[k].arr.cells.length<=4096)(hl:l.length<=1000)(hb:∀b∈l,b.changes.length<=20):
 Calls Zz 143 #[pK r,iv k] w fun e w'=>∃a m c ps,e=.returned (.slice a m c)/\KpL [] w w'/\R (au (au (tI .i64))) M w' ps [.slice a m c]/\ps.Pairwise (fun x y=>aY x y<0)/\ps.length<=100000/\∀p,p∈ps↔kD first[k] l p:=by
 have hmx:az=140737488355328:=rfl
 obtain⟨x,hx⟩:∃x,x=first[k]:=⟨_,rfl⟩
 rw[<-hx]at hc ⊢
 have lt:∀{w':World},KpL [] w w'->∀b∈M,b<w'.heap.size:=fun hk b hb=>Nat.lt_of_lt_of_le (hM b hb) hk.size
 refine vG ⟨fun vs w'=>∃(i:Nat) (ys:List aR) (v:Value),vs=[v,iv (i:Int)]/\i<=x.arr.cells.length/\KpL [] w w'/\xA M w' ys v i/\∀p,p∈ys.map (·.at_)↔p∈(x.arr.cells.take i).map (·.at_),
  fun vs _=>match vs with|[_,.int _ i]=>x.arr.cells.length - i.toNat|_=>0,⟨0,[],_,rfl,by omega,KpL.refl _ _,⟨R.sl_nil _ _ _ _ _,List.Pairwise.nil,by simp⟩,by simp⟩,?_⟩
 rintro a1 k1 k2 n1 w1 ⟨i,ys,v,hv,hi,hk1,hp,hm⟩
 simp only[List.cons.injEq,Value.int.injEq,true_and,and_true]at hv
 obtain⟨rfl,rfl⟩:=hv
 obtain⟨d,q,_,_,_,_,_,_,b3,p3,q3,l1,_,_,_,_,l2,_,_,x3⟩:=(h.kp0 hk1).nm hk
 rw[<-hx]at x3
 obtain⟨rfl,_,_⟩:=x3.sl_len
 refine⟨_,_,_,l1,d,rfl,by omega,by omega,_,_,_,l2,?_,?_⟩
 ·intro hlt
  have gi:i<x.arr.cells.length:=by omega
  obtain⟨ad,cs,rfl,hv1,hld,_,_⟩:=x3.sl_get gi
  obtain⟨b1,p1,q1,b2,p2,q2,rfl,y1,y2⟩:=hv1.cell
  refine⟨_,_,_,l1,d,rfl,by omega,by omega,_,_,_,l2,ad,rfl,by omega,hlt,_,_,_,_,_,_,hld,⟨(hp.put (c:=x.arr.cells[i]) (lt hk1) (y1.weak fun b hb=>by simp[hb]) (y2.weak fun b hb=>by simp[hb]) (by omega)).mono ?_⟩⟩
  rintro e w2 ⟨hk2,a',n',q',zs,rfl,hp',hm'⟩
  refine⟨_,_,_,rfl,hk2,ae.2 (by omega),⟨i+1,zs,_,rfl,by omega,hk1.trans hk2,hp',fun p=>?_⟩,by dsimp only;omega⟩
  rw[hm',hm,lb gi]
 intro hge
 have hm0:∀p,p∈ys.map (·.at_)↔kD x (l.take 0) p:=fun p=>by
  rw[hm,List.take_of_length_le (by omega)]
  exact⟨.inl,fun h=>h.elim id (by rintro⟨b,hb,_⟩;simp at hb)⟩
 refine⟨fun vs w'=>∃(j:Nat) (ys:List aR) (v:Value),vs=[v,iv (j:Int)]/\j<=l.length/\KpL [] w w'/\xA M w' ys v (4096+20*j)/\∀p,p∈ys.map (·.at_)↔kD x (l.take j) p,
  fun vs _=>match vs with|[_,.int _ i]=>l.length - i.toNat|_=>0,⟨0,ys,_,rfl,by omega,hk1,hp.mono (by omega),hm0⟩,?_⟩
 rintro a9 k17 k18 n2 w3 ⟨j,ys,v,hv,hj,hk3,hp,hm⟩
 simp only[List.cons.injEq,Value.int.injEq,true_and,and_true]at hv
 obtain⟨rfl,rfl⟩:=hv
 obtain⟨a10,q10,l10,_⟩:=(h.kp0 hk3).ldL
 refine⟨_,_,_,l10,?_,?_⟩
 ·intro hlt
  have gj:j<l.length:=by omega
  have hb':=hb _ (List.getElem_mem gj)
  have step:∀p,kD x (l.take (j+1)) p↔kD x (l.take j) p∨l[j].array=x.name/\p∈l[j].changes.map (·.at_):=fun p=>by
   unfold kD
   rw[<-List.take_append_getElem gj]
   constructor
   ·rintro(h|⟨b,hb,h1,h2⟩)
    ·exact .inl (.inl h)
    ·rcases List.mem_append.1 hb with hb|hb
     ·exact .inl (.inr ⟨b,hb,h1,h2⟩)
     ·simp at hb;subst hb;exact .inr ⟨h1,h2⟩
   ·rintro((h|⟨b,hb,h1,h2⟩)|⟨h1,h2⟩)
    ·exact .inl h
    ·exact .inr ⟨b,List.mem_append_left _ hb,h1,h2⟩
    ·exact .inr ⟨_,List.mem_append_right _ (List.mem_singleton.2 rfl),h1,h2⟩
  refine⟨fun vs w'=>∃(ys:List aR) (v:Value),vs=[v]/\KpL [] w w'/\xA M w' ys v (4096+20*(j+1))/\∀p,p∈ys.map (·.at_)↔kD x (l.take (j+1)) p,⟨fun vs w'=>∃(i:Nat) (ys:List aR) (v:Value),vs=[v,iv (i:Int)]/\i<=l[j].changes.length/\KpL [] w w'/\xA M w' ys v (4096+20*j+i)/\∀p,p∈ys.map (·.at_)↔kD x (l.take j) p∨l[j].array=x.name/\p∈(l[j].changes.take i).map (·.at_),
   fun vs _=>match vs with|[_,.int _ i]=>l[j].changes.length - i.toNat|_=>0,⟨0,ys,_,rfl,by omega,hk3,hp,fun p=>by rw[hm];simp⟩,?_⟩,?_⟩
  ·rintro a11 k21 k22 n3 w4 ⟨i,ys,v,hv,hi,hk4,hp,hm⟩
   simp only[List.cons.injEq,Value.int.injEq,true_and,and_true]at hv
   obtain⟨rfl,rfl⟩:=hv
   obtain⟨d4,q4,a13,p13,q13,m1,_,_,m2,m3,m4,_⟩:=(h.kp0 hk4).bat gj
   obtain⟨rfl,_,_⟩:=m4.sl_len
   refine⟨_,_,_,m1,d4,rfl,by omega,hlt,_,_,_,m3,?_,?_⟩
   ·intro hlt3
    have gi:i<l[j].changes.length:=by omega
    obtain⟨d,q,_,_,_,_,_,_,_,_,_,l1,l2,_⟩:=(h.kp0 hk4).nm hk
    rw[<-hx]at l2
    obtain⟨ad,cs,rfl,hv1,_,_,_,hpt⟩:=m4.sl_get2 gi
    obtain⟨b1,p1,q1,b2,p2,q2,rfl,y1,y2⟩:=hv1.cell
    refine⟨_,_,_,m1,d4,rfl,by omega,hlt,_,m2,_,_,_,l1,d,rfl,by omega,by omega,_,l2,fun heq=>⟨_,_,_,m1,d4,rfl,by omega,hlt,_,_,_,m3,ad,rfl,by omega,hlt3,_,_,_,hpt 0 [_] rfl,fun w5 hw5=>⟨((hp.kp0 hw5).put (c:=⟨l[j].changes[i].at_,[]⟩) (lt (hk4.trans hw5)) ((y1.kp0 hw5).weak fun b hb=>by simp[hb]) (R.sl_nil _ _ _ _ _) (by omega)).mono ?_⟩⟩,fun hne w7 hw7=>⟨ys,_,rfl,hk4.trans hw7,(hp.kp0 hw7).mono (by omega),fun p=>?_⟩⟩
    ·rintro e w6 ⟨hk6,a',n',q',zs,rfl,hp',hm'⟩
     refine⟨_,_,_,rfl,hk6,ae.2 (by omega),⟨i+1,zs,_,rfl,by omega,(hk4.trans hw5).trans hk6,hp',fun p=>?_⟩,by dsimp only;omega⟩
     rw[hm',hm,lb gi]
     constructor
     ·rintro(h|h|⟨h1,h2⟩)
      ·exact .inr ⟨heq,.inl h⟩
      ·exact .inl h
      ·exact .inr ⟨h1,.inr h2⟩
     ·rintro(h|⟨h1,h2|h2⟩)
      ·exact .inr (.inl h)
      ·exact .inl h2
      ·exact .inr (.inr ⟨h1,h2⟩)
    ·rw[hm,step]
     exact⟨fun h=>h.elim .inl fun h=>absurd h.1 hne,fun h=>h.elim .inl fun h=>absurd h.1 hne⟩
   ·intro hge3 w8 hw8
    refine⟨ys,_,rfl,hk4.trans hw8,(hp.kp0 hw8).mono (by omega),fun p=>?_⟩
    rw[hm,step,show l[j].changes.take i=l[j].changes from List.take_of_length_le (by omega)]
  ·rintro a20 k39 k40 w9 ⟨ys,v,hv,hk9,hp,hm⟩
   simp only[List.cons.injEq,and_true]at hv
   subst hv
   exact⟨ae.2 (by omega),⟨j+1,ys,_,rfl,by omega,hk9,hp,hm⟩,by dsimp only;omega⟩
 intro hge2
 rw[List.take_of_length_le (by omega)]at hm
 have hlen:=hp.len
 obtain⟨rfl,_,_⟩:=hp.rd.sl_len
 refine⟨fun vs w'=>∃(i:Nat) (a:Option Addr) (m c:Nat),vs=[.slice a m c,iv (i:Int)]/\i<=ys.length/\aZ (au (tI .i64)) M w3 none ((ys.take i).map (·.at_)) a m c w',
  fun vs _=>match vs with|[_,.int _ i]=>ys.length - i.toNat|_=>0,⟨0,none,0,0,rfl,by omega,bI.nil' _ (lt hk3),KpL.refl _ _,by simp[aj]⟩,?_⟩
 rintro a21 k41 k42 n4 w10 ⟨i,_,_,_,hv,hi,hC⟩
 simp only[List.cons.injEq,Value.int.injEq,Value.slice.injEq,true_and,and_true]at hv
 obtain⟨⟨rfl,rfl,rfl⟩,rfl⟩:=hv
 have hlA:=hC.acc.len
 rw[List.length_map,List.length_take,Nat.min_eq_left hi]at hlA
 constructor
 ·intro hlt
  have gi:i<ys.length:=by omega
  obtain⟨ad,cs,rfl,hv1,_,_,_,hpt⟩:=(hp.rd.kp0 hC.kpn).sl_get2 gi
  obtain⟨b1,p1,q1,b2,p2,q2,rfl,y1,y2⟩:=hv1.cell
  obtain⟨_,_,e0,y0⟩:∃ad' cs',(some ad:Option Addr)=some ad'/\R aC M w3 ys[i] cs'/\ao w3 (ad'.add (i*2)) cs':=by
   obtain⟨ad',cs',h1,h2,h3,_⟩:=hp.rd.sl_get gi
   exact⟨ad',cs',h1,h2,h3⟩
  have hy:R (au (tI .i64)) M w3 ys[i].at_ [.slice b1 p1 q1]:=by
   simp only[Option.some.injEq]at e0
   subst e0
   obtain⟨c1,r1,s1,c2,r2,s2,rfl,z1,_⟩:=y0.1.cell
   have h1:=(y0.2.kp hC.kpn).at_ 0 _ rfl
   have h2:=(hpt 0 [.slice b1 p1 q1] rfl).at_ 0 _ rfl
   have e2:((ad.add (i*2)).add 0).add 0=(ad.add (i*2)).add 0:=kC _ 0 0
   have h3:w10.cell? ((ad.add (i*2)).add 0)=some (.slice b1 p1 q1):=by rw[<-e2];exact h2
   rw[h3]at h1
   simp only[Option.some.injEq,Value.slice.injEq]at h1
   obtain⟨rfl,rfl,rfl⟩:=h1
   exact z1
  refine⟨ad,rfl,by omega,hlt,_,_,_,hpt 0 [_] rfl,fun k45 g45 w11 hw11 l45 hkn=>?_⟩
  have hC':=hC.kp0 hw11
  refine aD Fv hC'.acc hkn (hC'.old hy) (by omega) fun a' c' w12 hC2=>⟨_,_,_,rfl,_,hC2.kp,⟨fun hm'=>?_⟩,ae.2 (by omega),⟨i+1,a',_,c',rfl,by omega,?_⟩,by dsimp only;omega⟩
  ·have:=(hC.acc.blk_lt _ hm').1;omega
  ·rw[<-List.take_append_getElem gi,List.map_append]
   exact hC'.trans hC2
 ·intro hge4
  rw[List.take_of_length_le (by omega)]at hC
  exact⟨_,_,_,_,rfl,hk3.trans hC.kpn,hC.acc.done (by omega),List.pairwise_map.2 hp.so,by simp;omega,hm⟩
end Go.Vc
namespace Go.Vc
open Go Go.Proofs
theorem Dm:∀x y:List UInt8,Op.bytesLess x y=decide (x<y)
 |x,[]=>by cases x<;>simp[Op.bytesLess]
 |[],b::y=>by simp[Op.bytesLess]
 |a::x,b::y=>by
  rw[Op.bytesLess,Dm x y]
  by_cases h1:a<b<;>by_cases h2:a=b<;>by_cases h3:x<y<;>simp[List.cons_lt_cons_iff,h1,h2,h3]
theorem D2{a b:ByteArray}(h:a.data.toList=b.data.toList):a=b:=by
 cases a;cases b
 simp only[Array.toList_inj]at h
 simp[h]
theorem xP(a b:ByteArray):AC a b=true↔b.data.toList<a.data.toList:=by
 unfold AC
 rw[Dm,ByteArray.toList_eq,ByteArray.toList_eq]
 constructor
 ·intro h
  have h':¬a.data.toList<b.data.toList/\¬a.data.toList=b.data.toList:=by simpa using h
  by_cases hb:b.data.toList<a.data.toList
  ·exact hb
  ·exact absurd (Std.Trichotomous.trichotomous (r:=(· < · : List UInt8->List UInt8->Prop)) _ _ h'.1 hb) h'.2
 ·intro h
  have h1:¬a.data.toList<b.data.toList:=fun h2=>List.lt_asymm h h2
  have h2:¬a.data.toList=b.data.toList:=fun h2=>by rw[h2]at h;exact List.lt_irrefl _ h
  have h3:¬a.data=b.data:=fun he=>h2 (by rw[he])
  simp[h1,h3]
theorem bH.gt_iff(x y:bH):x.gt y=true↔y.stamp<x.stamp∨x.stamp=y.stamp/\y.token.data.toList<x.token.data.toList:=by
 unfold bH.gt
 rw[Bool.or_eq_true,Bool.and_eq_true,decide_eq_true_eq,decide_eq_true_eq,xP]
theorem bH.gt_asymm{x y:bH}(h:x.gt y=true)(k:y.gt x=true):False:=by
 rw[bH.gt_iff]at h k
 rcases h with h|⟨h1,h2⟩<;>rcases k with k|⟨k1,k2⟩
 ·omega
 ·omega
 ·omega
 ·exact List.lt_asymm h2 k2
theorem bH.gt_trans{x y z:bH}(h:x.gt y=true)(k:y.gt z=true):x.gt z=true:=by
 rw[bH.gt_iff]at h k ⊢
 rcases h with h|⟨h1,h2⟩<;>rcases k with k|⟨k1,k2⟩
 ·exact .inl (by omega)
 ·exact .inl (by omega)
 ·exact .inl (by omega)
 ·exact .inr ⟨by omega,List.lt_trans k2 h2⟩
theorem bH.gt_total{x y:bH}(h:x.token≠y.token)(k:¬x.gt y=true):y.gt x=true:=by
 rw[bH.gt_iff]at k ⊢
 by_cases h1:x.stamp<y.stamp
 ·exact .inl h1
 by_cases h2:y.stamp<x.stamp
 ·exact absurd (.inl h2) k
 refine .inr ⟨by omega,?_⟩
 by_cases h3:x.token.data.toList<y.token.data.toList
 ·exact h3
 ·refine absurd (D2 (Std.Trichotomous.trichotomous (r:=(· < · : List UInt8->List UInt8->Prop)) _ _ h3 fun h4=>k (.inr ⟨by omega,h4⟩))) h
theorem pP{κ β:Type}[DecidableEq κ]{l:List (κ×β)}{k k':κ}{v:β}:bQ (dX l k v) k'=if k'=k then some v else bQ l k':=by
 unfold bQ dX
 by_cases hin:(l.any fun p=>decide (p.1=k))=true
 ·rw[if_pos hin]
  induction l with
  |nil=>simp at hin
  |cons p r ih =>
   by_cases hp:p.1=k
   ·by_cases hk:k'=k
    ·subst hk
     simp[hp]
    ·have hk2:¬k=k':=fun h=>hk h.symm
     have hp2:¬p.1=k':=by rw[hp];exact hk2
     simp only[List.map_cons,if_pos hp,List.find?_cons,decide_eq_false hk2,decide_eq_false hp2]
     by_cases hr:(r.any fun p=>decide (p.1=k))=true
     ·exact ih hr
     ·rw[if_neg hk]
      have:r.map (fun p=>if p.1=k then (k,v) else p)=r:=by
       refine(List.map_congr_left (g:=id) fun q hq=>?_).trans (List.map_id _)
       rw[if_neg]
       ·rfl
       rintro rfl
       exact hr (List.any_eq_true.2 ⟨q,hq,by simp⟩)
      rw[this]
   ·have hr:(r.any fun p=>decide (p.1=k))=true:=by simpa[hp]using hin
    simp only[List.map_cons,if_neg hp,List.find?_cons]
    by_cases hk:p.1=k'
    ·have:¬k'=k:=by rw[<-hk];exact hp
     simp[hk,this]
    ·simp only[decide_eq_false hk]
     exact ih hr
 ·rw[if_neg hin,List.find?_append]
  by_cases hk:k'=k
  ·subst hk
   have:l.find? (fun p=>decide (p.1=k'))=none:=by
    rw[List.find?_eq_none]
    intro q hq hc
    exact hin (List.any_eq_true.2 ⟨q,hq,hc⟩)
   simp[this]
  ·have hk2:¬k=k':=fun h=>hk h.symm
   simp[hk,hk2]
theorem mK{bs:List bH}{n k:Int}{pl:List (Pl×dE)}{c:aR}{p:Pl}(h:be k c.at_≠p):bQ (fN bs n k pl c) p=bQ pl p:=by
 unfold fN
 split
 ·rw[pP,if_neg fun hc=>h hc.symm]
 ·rfl
theorem gQ{bs:List bH}{n k:Int}{p:Pl}:∀{l:List aR} {pl:List (Pl×dE)},(∀c∈l,be k c.at_≠p)->bQ (dp bs n k pl l) p=bQ pl p
 |[],_,_=>rfl
 |c::r,pl,h=>by
  have:=gQ (bs:=bs) (n:=n) (l:=r) (pl:=fN bs n k pl c) fun c' hc'=>h c' (by simp[hc'])
  show bQ (dp bs n k (fN bs n k pl c) r) p=_
  rw[this,mK (h c (by simp))]
theorem pY{bs:List bH}{n k:Int}:∀{l:List aR} {pl:List (Pl×dE)},(l.map fun c=>be k c.at_).Nodup->∀c∈l,bQ (dp bs n k pl l) (be k c.at_)=if eE bs n (((bQ pl (be k c.at_)).map (·.batch)).getD 0)=true then some ⟨n,c.vals⟩ else bQ pl (be k c.at_)
 |[],_,_,c,hc=>by simp at hc
 |d::r,pl,hnd,c,hc=>by
  rw[List.map_cons,List.nodup_cons]at hnd
  show bQ (dp bs n k (fN bs n k pl d) r) _=_
  rcases List.mem_cons.1 hc with rfl|hc
  ·rw[gQ fun c' hc' he=>hnd.1 (List.mem_map.2 ⟨c',hc',he⟩)]
   unfold fN
   split
   ·rw[pP,if_pos rfl]
   ·rfl
  ·have hne:be k d.at_≠be k c.at_:=fun he=>hnd.1 (List.mem_map.2 ⟨c,hc,he.symm⟩)
   rw[pY hnd.2 c hc,mK hne]
def jD(ars:List Nm)(b:Bt)(p:Pl)(v:List Vl):Prop:=∃c∈b.changes,be (aI ars b.array) c.at_=p/\c.vals=v
def Di(ars:List Nm)(b:Bt):Prop:=(b.changes.map fun c=>be (aI ars b.array) c.at_).Nodup
theorem pW{α β:Type}{f:α->β}:∀{l:List α} {x y:α},(l.map f).Nodup->x∈l->y∈l->f x=f y->x=y
 |a::r,x,y,h,hx,hy,he=>by
  rw[List.map_cons,List.nodup_cons]at h
  rcases List.mem_cons.1 hx with e1|hx'<;>rcases List.mem_cons.1 hy with e2|hy'
  ·rw[e1,e2]
  ·rw[e1]at he
   exact absurd (List.mem_map.2 ⟨y,hy',he.symm⟩) h.1
  ·rw[e2]at he
   exact absurd (List.mem_map.2 ⟨x,hx',he⟩) h.1
  ·exact pW h.2 hx' hy' he
theorem Bf{k:Int}:∀{l:List aR} {met:List Pl},lQ k met l=0->(l.map fun c=>be k c.at_).Nodup/\∀c∈l,be k c.at_∉met
 |[],_,_=>⟨by simp,by simp⟩
 |c::r,met,h=>by
  rw[lQ]at h
  split at h
  ·cases h
  rename_i hm
  obtain⟨h1,h2⟩:=Bf h
  refine⟨?_,fun d hd=>?_⟩
  ·rw[List.map_cons,List.nodup_cons]
   refine⟨fun hc=>?_,h1⟩
   obtain⟨d,hd,he⟩:=List.mem_map.1 hc
   exact h2 d hd (by rw[he];simp)
  ·rcases List.mem_cons.1 hd with rfl|hd
   ·exact hm
   ·exact fun hc=>h2 d hd (List.mem_append_left _ hc)
def vD(ars:List Nm)(B:List Bt)(b:Bt)(p:Pl):Prop:=∀b'∈B,(∃v,jD ars b' p v)->b'=b∨b.seen.gt b'.seen=true
inductive At (ars:List Nm) (P0:List (Pl×dE)) (B:List Bt) (p:Pl):Option dE->Prop where
 |none (h0:bQ P0 p=.none) (hn:∀b∈B,¬∃v,jD ars b p v):At ars P0 B p .none
 |old (x y:dE) (hb:x.batch=0) (h0:bQ P0 p=some y) (hv:y.vals=x.vals) (hn:∀b∈B,¬∃v,jD ars b p v):At ars P0 B p (some x)
 |new (x:dE) (j:Nat) (b:Bt) (hb:x.batch=((j+1:Nat):Int)) (hj:B[j]?=some b) (ht:jD ars b p x.vals) (hn:vD ars B b p):At ars P0 B p (some x)
structure Du (ars:List Nm) (P0:List (Pl×dE)) (B:List Bt) (st:bg):Prop where
 arr:st.arrays=ars
 bat:st.batches=B.map Bt.seen
 at_:∀p,At ars P0 B p (bQ st.places p)
 apt:∀b∈B,Di ars b
 tok:(B.map (·.token)).Nodup
theorem jW{B:List Bt}{b:Bt}{x:Int}:eE (B.map Bt.seen++[b.seen]) ((B.length+1:Nat):Int) x=(decide (x=0) || match (B.map Bt.seen++[b.seen])[(x - 1).toNat]? with|some y=>b.seen.gt y|none=>false):=by
 unfold eE
 have e:(((B.length+1:Nat):Int) - 1).toNat=B.length:=by omega
 have e2:(B.map Bt.seen++[b.seen])[B.length]?=some b.seen:=by
  rw[List.getElem?_append_right (by simp)]
  simp
 rw[e,e2]
 cases (B.map Bt.seen++[b.seen])[(x - 1).toNat]?<;>rfl
theorem Du.commit{ars:List Nm}{P0:List (Pl×dE)}{B:List Bt}{st:bg}(h:Du ars P0 B st){b:Bt}(hb:Di ars b)(ht:∀x∈B,x.token≠b.token):Du ars P0 (B++[b]) (st.commit b):=by
 refine⟨h.arr,by show st.batches++[b.seen]=_;rw[h.bat];simp,fun p=>?_,fun x hx=>?_,?_⟩
 ·have ep:(st.commit b).places=dp (B.map Bt.seen++[b.seen]) ((B.length+1:Nat):Int) (aI ars b.array) st.places b.changes:=by
   show dp (st.batches++[b.seen]) ((st.batches.length+1:Nat):Int) (aI st.arrays b.array) st.places b.changes=_
   rw[h.bat,h.arr,List.length_map]
  rw[ep]
  by_cases htc:∃v,jD ars b p v
  ·obtain⟨v,c,hc,rfl,rfl⟩:=htc
   rw[pY hb c hc]
   have htb:jD ars b (be (aI ars b.array) c.at_) c.vals:=⟨c,hc,rfl,rfl⟩
   have hold:=h.at_ (be (aI ars b.array) c.at_)
   generalize be (aI ars b.array) c.at_=p at *
   have hlast:(B++[b])[B.length]?=some b:=by rw[List.getElem?_append_right (Nat.le_refl _)];simp
   have newSt:vD ars (B++[b]) b p->At ars P0 (B++[b]) p (some ⟨((B.length+1:Nat):Int),c.vals⟩):=fun hn=>.new _ B.length b rfl hlast htb hn
   have only:(∀b'∈B,¬∃v,jD ars b' p v)->vD ars (B++[b]) b p:=fun hn b' hb' hv=>by
    rcases List.mem_append.1 hb' with hb'|hb'
    ·exact absurd hv (hn b' hb')
    ·simp at hb';exact .inl hb'
   generalize hx:bQ st.places p=x at *
   cases hold with
   |none h0 hn =>
    rw[jW]
    exact newSt (only hn)
   |old x y hb0 h0 hv hn =>
    have e:(Option.map (fun x=>x.batch) (some x)).getD 0=0:=hb0
    rw[e,jW]
    exact newSt (only hn)
   |new x j b0 hbj hj ht0 hn =>
    have e:(Option.map (fun x=>x.batch) (some x)).getD 0=((j+1:Nat):Int):=hbj
    have hjl:j<B.length:=(List.getElem?_eq_some_iff.1 hj).1
    have hb0:b0∈B:=List.mem_of_getElem? hj
    have e1:(((j+1:Nat):Int) - 1).toNat=j:=by omega
    have e2:(B.map Bt.seen++[b.seen])[j]?=some b0.seen:=by
     rw[List.getElem?_append_left (by simpa using hjl),List.getElem?_map,hj];rfl
    have e3:decide (((j+1:Nat):Int)=0)=false:=by simp;omega
    rw[e,jW,e1,e2,e3,Bool.false_or]
    dsimp only
    split
    ·rename_i hg
     refine newSt fun b' hb' hv=>?_
     rcases List.mem_append.1 hb' with hb'|hb'
     ·rcases hn b' hb' hv with rfl|hg2
      ·exact .inr hg
      ·exact .inr (bH.gt_trans hg hg2)
     ·simp at hb';exact .inl hb'
    ·rename_i hg
     have hg':=bH.gt_total (x:=b.seen) (y:=b0.seen) (fun he=>ht b0 hb0 he.symm) hg
     refine .new x j b0 hbj (by rw[List.getElem?_append_left hjl];exact hj) ht0 fun b' hb' hv=>?_
     rcases List.mem_append.1 hb' with hb'|hb'
     ·exact hn b' hb' hv
     ·simp at hb'
      subst hb'
      exact .inr hg'
  ·rw[gQ fun c hc he=>htc ⟨c.vals,c,hc,he,rfl⟩]
   have hnb:∀b'∈B++[b],(∃v,jD ars b' p v)->b'∈B:=fun b' hb' hv=>by
    rcases List.mem_append.1 hb' with hb'|hb'
    ·exact hb'
    ·simp at hb'
     subst hb'
     exact absurd hv htc
   have hold:=h.at_ p
   generalize bQ st.places p=x at *
   cases hold with
   |none h0 hn=>exact .none h0 fun b' hb' hv=>hn b' (hnb b' hb' hv) hv
   |old x y hb0 h0 hv hn=>exact .old x y hb0 h0 hv fun b' hb' hv=>hn b' (hnb b' hb' hv) hv
   |new x j b0 hbj hj ht0 hn=>exact .new x j b0 hbj (by rw[List.getElem?_append_left (List.getElem?_eq_some_iff.1 hj).1];exact hj) ht0 fun b' hb' hv=>hn b' (hnb b' hb' hv) hv
 ·rcases List.mem_append.1 hx with hx|hx
  ·exact h.apt x hx
  ·simp at hx;subst hx;exact hb
 ·rw[List.map_append,List.nodup_append]
  refine⟨h.tok,by simp,fun t ht' u hu=>?_⟩
  obtain⟨y,hy,rfl⟩:=List.mem_map.1 ht'
  simp at hu
  subst hu
  exact ht y hy
theorem Du.like{ars:List Nm}{P0:List (Pl×dE)}{B:List Bt}{s t:bg}(h:Du ars P0 B s)(nd:(s.places.map (·.1)).Nodup)(k:gf t s):Du ars P0 B t:=by
 refine⟨k.arr.trans h.arr,k.bat.trans h.bat,fun p=>?_,h.apt,h.tok⟩
 rw[po k.pls ((k.pls.map _).nodup_iff.2 nd)]
 exact h.at_ p
end Go.Vc
namespace Go.Vc
open Go Go.Proofs
theorem j9:∀{xs ys:List aR},xs.Perm ys->bq xs->bq ys->xs=ys
 |[],ys,h,_,_=>(List.nil_perm.1 h).symm
 |x::r,[],h,_,_=>absurd h.length_eq (by simp)
 |x::r,y::t,h,hx,hy=>by
  unfold bq at hx hy
  rw[List.pairwise_cons]at hx hy
  have hxy:x=y:=by
   rcases List.mem_cons.1 (h.mem_iff.1 (List.mem_cons_self ..)) with e|hm
   ·exact e
   rcases List.mem_cons.1 (h.mem_iff.2 (List.mem_cons_self ..)) with e|hm2
   ·exact e.symm
   have h1:=hy.1 x hm
   have h2:=hx.1 y hm2
   have h3:=cz x.at_ y.at_
   omega
  subst hxy
  rw[j9 ((List.perm_cons x).1 h) hx.2 hy.2]
theorem CV{M Ml G:List Nat}{w:World}{s d n:Nat}{c:Int}{st:bg}(h:dS M w s d n c st G){cs:List aR}{la:Option Addr}{ln lc:Nat}(hl:R (au aC) Ml w cs [.slice la ln lc])(ha:st.arrays.length=1)
 (hcs:∀ys:List aR,ys.Perm (bj st.arrays st.places 0)->bq ys->ys=cs)(hsh:∀x∈cs,x.at_.length=2/\x.vals.length=1):
 Calls Zz 28 #[pK s,.slice la ln lc] w (aA (.bool true) w):=by
 obtain⟨rfl,_,_⟩:=hl.sl_len
 have hmx:az=140737488355328:=rfl
 refine Df ⟨(h.db (N:=[]) (by simp)).mono ?_⟩
 rintro e w1 ⟨hk1,out,a,m,q,rfl,hlen,hrel,hR⟩
 obtain⟨rfl,_,_⟩:=hR.sl_len
 have g0:0<out.length:=by omega
 have hcells:out[0].arr.cells=cs:=by
  obtain⟨x,hx,_,_,_,hp,hs⟩:=hrel 0 out[0] (List.getElem?_eq_getElem g0)
  exact hcs _ hp hs
 have get:∀{w':World},KpL [] w1 w'->∃ad b3 p3 q3,a=some ad/\ao w' (((ad.add (0*4)).add 1).add 2) [.slice b3 p3 q3]/\R (au aC) [] w' cs [.slice b3 p3 q3]:=by
  intro w' hk
  obtain⟨ad,cs',rfl,hv1,_,_,_,hpt⟩:=(hR.kp0 hk).sl_get2 g0
  obtain⟨b1,p1,q1,b2,p2,q2,b3,p3,q3,rfl,_,_,_,x3⟩:=hv1.nm
  rw[hcells]at x3
  refine⟨ad,b3,p3,q3,rfl,?_,x3⟩
  rw[kC]
  exact hpt 3 [_] rfl
 refine⟨a,_,q,0,rfl,hk1,fun _=>⟨fun _=>?_,fun hc=>absurd (by omega) hc⟩,fun hc=>absurd rfl hc⟩
 obtain⟨ad,b3,p3,q3,rfl,hld0,hx0⟩:=get (KpL.refl _ _)
 obtain⟨hp3,_,_⟩:=hx0.sl_len
 refine⟨ad,rfl,by omega,by omega,b3,p3,q3,hld0,fun hc=>absurd (by omega) hc,fun _=>?_⟩
 refine⟨fun vs w'=>∃i:Nat,vs=[iv (i:Int)]/\i<=cs.length/\KpL [] w1 w',fun vs _=>match vs with|[.int _ i]=>cs.length - i.toNat|_=>0,⟨0,rfl,by omega,KpL.refl _ _⟩,?_⟩
 rintro n2 w2 ⟨i,hv,hi,hk2⟩
 obtain rfl:=v1 hv
 constructor
 ·intro hlt
  have gi:i<cs.length:=by omega
  obtain⟨ad',c3,r3,t3,had,hld2,hx2⟩:=get hk2
  simp only[Option.some.injEq]at had
  subst had
  obtain⟨hr3,_,_⟩:=hx2.sl_len
  obtain⟨ad3,cs3,rfl,hv3,hld3,_,_⟩:=hx2.sl_get gi
  obtain⟨a4,k7,k8,a5,k9,k10,rfl,y1,y2⟩:=hv3.cell
  obtain⟨ad5,cs5,rfl,hv5,_,_,_,hpt5⟩:=(hl.kp0 (hk1.trans hk2)).sl_get2 gi
  obtain⟨a6,k12,k13,a8,k16,k17,rfl,z1,z2⟩:=hv5.cell
  obtain⟨s1,s2⟩:=hsh cs[i] (List.getElem_mem gi)
  obtain⟨hy1,_,_⟩:=y1.sl_len
  obtain⟨hy2,_,_⟩:=y2.sl_len
  obtain⟨hz1,_,_⟩:=z1.sl_len
  obtain⟨hz2,_,_⟩:=z2.sl_len
  obtain⟨ad4,c4,rfl,v4,l4,_,_⟩:=y1.sl_get (i:=0) (by omega)
  obtain⟨rfl,_⟩:=v4.intD
  obtain⟨ad4',c4',had4,v4',l4',_,_⟩:=y1.sl_get (i:=1) (by omega)
  obtain⟨rfl,_⟩:=v4'.intD
  simp only[Option.some.injEq]at had4
  subst had4
  obtain⟨ad6,c6,rfl,v6,l6,_,_⟩:=z1.sl_get (i:=0) (by omega)
  obtain⟨rfl,_⟩:=v6.intD
  obtain⟨ad6',c6',had6,v6',l6',_,_⟩:=z1.sl_get (i:=1) (by omega)
  obtain⟨rfl,_⟩:=v6'.intD
  simp only[Option.some.injEq]at had6
  subst had6
  obtain⟨ad10,c10,rfl,v10,l10,_,_⟩:=y2.sl_get (i:=0) (by omega)
  obtain⟨rfl,_⟩:=v10.val
  obtain⟨ad12,c12,rfl,v12,l12,_,_⟩:=z2.sl_get (i:=0) (by omega)
  obtain⟨rfl,_⟩:=v12.val
  have hg:Tryz.prog.eqGuardType Tryz.prog.depth 161=false:=by kernel_rfl
  refine⟨ad,rfl,by omega,by omega,_,_,_,hld2,ad3,rfl,by omega,by omega,_,_,_,_,_,_,hld3,fun k11 hk11=>⟨fun _=>⟨ad4,rfl,by omega,by omega,_,l4,ad5,rfl,by omega,hlt,_,_,_,hpt5 0 [_] rfl,ad6,rfl,by omega,by omega,_,l6,fun _=>?_,fun hc=>absurd rfl hc⟩,fun hc=>absurd (by omega) hc⟩⟩
  refine⟨ad4,rfl,by omega,by omega,_,l4',ad5,rfl,by omega,hlt,_,_,_,hpt5 0 [_] rfl,ad6,rfl,by omega,by omega,_,l6',fun _=>⟨fun _=>?_,fun hc=>absurd (by omega) hc⟩,fun hc=>absurd rfl hc⟩
  refine⟨ad10,rfl,by omega,by omega,_,_,_,_,l10,ad5,rfl,by omega,hlt,_,_,_,hpt5 1 [_] rfl,ad12,rfl,by omega,by omega,_,_,_,_,l12,_,nZ hg (fun w=>Dv w _ _ _ _ _ _ _ _),fun hc=>?_,fun _=>⟨ae.2 (by omega),fun w4 hk4 _=>⟨⟨i+1,rfl,by omega,hk2.trans hk4⟩,by dsimp only;omega⟩⟩⟩
  simp at hc
 ·intro _
  exact⟨rfl,hk1.trans hk2⟩
end Go.Vc
namespace Go.Vc
open Go Go.Proofs
def chk(db:List Nm)(b:Bt):Bool:=decide ((aU db).checkE b=0)
structure Fq (db:List Nm) (L:List Bt) (i:Nat) (st:bg):Prop where
 aft:Du (db.map aB) (aO 0 db) ((L.take i).filter (chk db)) st
 use:st.use<=(aU db).use+14*i
theorem Fq.start{db:List Nm}{L:List Bt}(i:Int):Fq db L 0 { aU db with id:=i }:=by
 refine⟨⟨rfl,rfl,fun p=>?_,by simp,by simp⟩,by show(aU db).use<=_;omega⟩
 show At _ (aO 0 db) _ p (bQ (aO 0 db) p)
 cases hx:bQ (aO 0 db) p with
 |none=>exact .none hx (by simp)
 |some x =>
  refine .old x x ?_ hx rfl (by simp)
  unfold bQ at hx
  obtain⟨q,hq,rfl⟩:=Option.map_eq_some_iff.1 hx
  obtain⟨j,y,c,_,_,hp⟩:=lf (List.mem_of_find?_eq_some hq)
  rw[hp]
theorem AB{L:List Bt}(hnd:(L.map (·.token)).Nodup){i:Nat}(hi:i<L.length):∀x∈L.take i,x.token≠L[i].token:=by
 intro x hx he
 have h1:(L.take (i+1)).map (·.token)=(L.take i).map (·.token)++[L[i].token]:=by rw[<-List.take_append_getElem hi,List.map_append];rfl
 have h2:((L.take (i+1)).map (·.token)).Nodup:=hnd.sublist ((List.take_sublist _ _).map _)
 rw[h1,List.nodup_append]at h2
 exact h2.2.2 x.token (List.mem_map.2 ⟨x,hx,rfl⟩) L[i].token (by simp) he
theorem jC{κ β:Type}[DecidableEq κ]{l:List (κ×β)}{k:κ}{v:β}(h:bQ l k=some v):(k,v)∈l:=by
 unfold bQ at h
 obtain⟨q,hq,rfl⟩:=Option.map_eq_some_iff.1 h
 have h1:=List.find?_some hq
 have h2:=List.mem_of_find?_eq_some hq
 simp only[decide_eq_true_eq]at h1
 rw[<-h1]
 exact h2
theorem nU{l:List aR}(h:bq l):l.Nodup:=by
 unfold bq at h
 refine h.imp fun {a b} hab he=>?_
 subst he
 have:aY a.at_ a.at_=0:=bB.2 rfl
 omega
end Go.Vc
namespace Go.Vc
open Go Go.Proofs
def Ca(nm:ByteArray)(b:Bt)(p:List Int)(v:List Vl):Prop:=b.array=nm/\∃c∈b.changes,c.at_=p/\c.vals=v
def tQ(nm:ByteArray)(l:List Bt)(N:Nat)(p:List Int)(n:Int)(v:List Vl):Prop :=
 (n = -1/\∀b∈l.take N,∀v',¬Ca nm b p v')∨∃(j:Nat) (b:Bt),n=j/\j<N/\l[j]?=some b/\Ca nm b p v/\∀b'∈l.take N,(∃v',Ca nm b' p v')->b'=b∨b.seen.gt b'.seen=true
theorem tQ.stay{nm:ByteArray}{l:List Bt}{i:Nat}{p:List Int}{n:Int}{v:List Vl}(h:tQ nm l i p n v)(hi:i<l.length)(hn:∀v',¬Ca nm l[i] p v'):tQ nm l (i+1) p n v:=by
 rw[tQ,<-List.take_append_getElem hi]
 rcases h with ⟨h1,h2⟩|⟨j,b,h1,h2,h3,h4,h5⟩
 ·refine .inl ⟨h1,fun b hb=>?_⟩
  rcases List.mem_append.1 hb with hb|hb
  ·exact h2 b hb
  ·simp at hb;subst hb;exact hn
 ·refine .inr ⟨j,b,h1,by omega,h3,h4,fun b' hb' hv=>?_⟩
  rcases List.mem_append.1 hb' with hb'|hb'
  ·exact h5 b' hb' hv
  ·simp at hb';subst hb';exact absurd hv fun⟨v',hv'⟩=>hn v' hv'
theorem tQ.old{nm:ByteArray}{l:List Bt}{i:Nat}{p:List Int}{n:Int}{v:List Vl}(h:tQ nm l i p n v)(hi:i<l.length)(hnd:(l.map (·.token)).Nodup){b0:Bt}(h0:0<=n)(hb:l[n.toNat]?=some b0)(hg:l[i].seen.gt b0.seen=false):tQ nm l (i+1) p n v:=by
 rcases h with ⟨h1,h2⟩|⟨j,b,h1,h2,h3,h4,h5⟩
 ·omega
 ·subst h1
  rw[Int.toNat_natCast,h3,Option.some.injEq]at hb
  subst hb
  rw[tQ,<-List.take_append_getElem hi]
  refine .inr ⟨j,b,rfl,by omega,h3,h4,fun b' hb' hv=>?_⟩
  rcases List.mem_append.1 hb' with hb'|hb'
  ·exact h5 b' hb' hv
  ·simp at hb'
   subst hb'
   refine .inr (bH.gt_total (x:=l[i].seen) (y:=b.seen) (fun he=>?_) (by rw[hg];simp))
   have hj:b∈l.take i:=List.mem_take_iff_getElem.2 ⟨j,by have:=(List.getElem?_eq_some_iff.1 h3).1;omega,(List.getElem?_eq_some_iff.1 h3).2⟩
   exact AB hnd hi b hj he.symm
theorem tQ.new{nm:ByteArray}{l:List Bt}{i:Nat}{p:List Int}{n:Int}{v v':List Vl}(h:tQ nm l i p n v)(hi:i<l.length)(ht:Ca nm l[i] p v')(hg:0<=n->∃b0,l[n.toNat]?=some b0/\l[i].seen.gt b0.seen=true):tQ nm l (i+1) p i v':=by
 rw[tQ,<-List.take_append_getElem hi]
 refine .inr ⟨i,l[i],rfl,by omega,List.getElem?_eq_getElem hi,ht,fun b' hb' hv=>?_⟩
 rcases List.mem_append.1 hb' with hb'|hb'
 ·rcases h with ⟨h1,h2⟩|⟨j,b,h1,h2,h3,h4,h5⟩
  ·exact absurd hv fun⟨v,hv⟩=>h2 b' hb' v hv
  ·subst h1
   obtain⟨b0,e,g⟩:=hg (by omega)
   rw[Int.toNat_natCast,h3,Option.some.injEq]at e
   subst e
   rcases h5 b' hb' hv with rfl|g2
   ·exact .inr g
   ·exact .inr (bH.gt_trans g g2)
 ·simp at hb';exact .inl hb'
theorem BC{M M':List Nat}{w:World}{r:Nat}{n u:Int}{first:List Nm}{l:List Bt}(h:aT M w r n first l u)(hl:l.length<=1000)(hnd:(l.map (·.token)).Nodup)(nm:ByteArray){p:List Int}{xa:Option Addr}{xn xc:Nat}(hp:R (au (tI .i64)) M' w p [.slice xa xn xc]):
 Calls Zz 147 #[pK r,.string nm,.slice xa xn xc] w fun e w'=>KpL [] w w'/\∃n v a m c,e=.returned (.tuple #[iv n,.slice a m c])/\tQ nm l l.length p n v/\R (au cv) M w' v [.slice a m c]:=by
 have hmx:az=140737488355328:=rfl
 refine BF ⟨fun vs w'=>∃(i:Nat) (n:Int) (v:List Vl) (s:Value),vs=[iv n,s,iv (i:Int)]/\i<=l.length/\KpL [] w w'/\tQ nm l i p n v/\R (au cv) (r::M) w' v [s],
  fun vs _=>match vs with|[_,_,.int _ i]=>l.length - i.toNat|_=>0,⟨0,-1,[],_,rfl,by omega,KpL.refl _ _,.inl ⟨rfl,by simp⟩,R.sl_nil _ _ _ _ _⟩,?_⟩
 rintro n1 a1 k1 k2 n2 w1 ⟨i,n,v,s,hv,hi,hk1,hL,hR⟩
 simp only[List.cons.injEq,Value.int.injEq,true_and,and_true]at hv
 obtain⟨rfl,rfl,rfl⟩:=hv
 obtain⟨a2,q2,l2,_⟩:=(h.kp0 hk1).ldL
 refine⟨_,_,_,l2,fun hlt=>?_,fun hge=>?_⟩
 ·have gi:i<l.length:=by omega
  have dec:∀{n:Int} {s:Value},l.length - ((i:Int)+1).toNat<l.length - (i:Int).toNat:=by omega
  obtain⟨d1,q1,c1,p1,r1,m1,m2,_,m3,m4,m5,_⟩:=(h.kp0 hk1).bat gi
  refine⟨fun vs w'=>∃(n:Int) (v:List Vl) (s:Value),vs=[iv n,s]/\KpL [] w w'/\tQ nm l (i+1) p n v/\R (au cv) (r::M) w' v [s],
   ⟨fun vs w'=>KpL [] w1 w'/\l[i].array=nm/\(0<=n1->∃b0,l[n1.toNat]?=some b0/\l[i].seen.gt b0.seen=true),⟨_,_,_,m1,d1,rfl,by omega,hlt,_,m3,fun hnm=>?_,fun hne w5 hw5=>⟨n1,v,_,rfl,hk1.trans hw5,hL.stay gi fun v' hv'=>hne hv'.1,hR.kp0 hw5⟩⟩,?_⟩,?_⟩
  ·have hnm:=Classical.not_not.1 hnm
   refine⟨fun h0=>?_,fun h0 w4 hw4=>⟨hw4,hnm,fun hc=>absurd hc h0⟩⟩
   obtain⟨j,b,rfl,hj,hb⟩:∃(j:Nat) (b:Bt),n1=j/\j<i/\l[j]?=some b:=by
    rcases hL with ⟨h1,_⟩|⟨j,b,h1,h2,h3,_⟩
    ·omega
    ·exact⟨j,b,h1,h2,h3⟩
   have gj:j<l.length:=by omega
   obtain⟨d3,q3,c3,p3,r3,o1,o2,_⟩:=(h.kp0 hk1).bat gj
   have hb':l[j]=b:=by rw[List.getElem?_eq_getElem gj,Option.some.injEq]at hb;exact hb
   refine⟨_,_,_,m1,d1,rfl,by omega,hlt,_,_,_,_,_,_,m2,_,_,_,o1,d3,rfl,by omega,by omega,_,_,_,_,_,_,o2,fun w2 hw2=>⟨(xm w2 l[i] l[j] _ _ _ _ _ _).mono ?_⟩⟩
   rintro e w3 ⟨rfl,hk3⟩
   have hw3:=hw2.trans hk3
   refine⟨_,rfl,hk3,fun hg=>⟨_,v,_,rfl,hk1.trans hw3,hL.old gi hnd (by omega) (b0:=b) (by simpa using hb) (by rw[<-hb'];exact gU hg),hR.kp0 hw3⟩,fun hg=>⟨hw3,hnm,fun _=>⟨b,by simpa using hb,by rw[<-hb'];exact eP hg⟩⟩⟩
  ·rintro w6 ⟨hk6,hnm,hg⟩
   have hw6:=hk1.trans hk6
   refine⟨fun vs w'=>∃(m:Nat) (n':Int) (v':List Vl) (s:Value),vs=[iv n',s,iv (m:Int)]/\m<=l[i].changes.length/\KpL [] w w'/\R (au cv) (r::M) w' v' [s]/\((n'=n1/\v'=v/\p∉(l[i].changes.take m).map (·.at_))∨(n'=i/\∃c∈l[i].changes,c.at_=p/\c.vals=v')),
    fun vs _=>match vs with|[_,_,.int _ m]=>l[i].changes.length - m.toNat|_=>0,⟨0,n1,v,_,rfl,by omega,hw6,hR.kp0 hk6,.inl ⟨rfl,rfl,by simp⟩⟩,?_⟩
   rintro n5 a8 k15 k16 n6 w7 ⟨m,n',v',s,hv,hm,hk7,hR7,hS⟩
   simp only[List.cons.injEq,Value.int.injEq,true_and,and_true]at hv
   obtain⟨rfl,rfl,rfl⟩:=hv
   obtain⟨d1,q1,c1,p1,r1,m1,m2,_,m3,m4,m5,_⟩:=(h.kp0 hk7).bat gi
   obtain⟨rfl,_,_⟩:=m5.sl_len
   refine⟨_,_,_,m1,d1,rfl,by omega,hlt,_,_,_,m4,fun hlt2=>?_,fun hge2=>?_⟩
   ·have gm:m<l[i].changes.length:=by omega
    obtain⟨ad,cs,rfl,hv1,_,_,_,hpt⟩:=m5.sl_get2 gm
    obtain⟨b1,t1,u1,b2,t2,u2,rfl,y1,y2⟩:=hv1.cell
    refine⟨_,_,_,m1,d1,rfl,by omega,hlt,_,_,_,m4,ad,rfl,by omega,hlt2,_,_,_,hpt 0 [_] rfl,⟨(gS y1 (hp.kp0 hk7)).mono ?_⟩⟩
    rintro e w8 ⟨rfl,hk8⟩
    have hk08:=hk7.trans hk8
    refine⟨_,rfl,hk8,fun ht=>?_,fun hf=>⟨ae.2 (by omega),⟨m+1,n5,v',_,rfl,by omega,hk08,hR7.kp0 hk8,hS.imp (fun⟨h1,h2,h3⟩=>⟨h1,h2,fun hmem=>?_⟩) id⟩,by dsimp only;omega⟩⟩
    ·have ht:=of_decide_eq_true ht
     obtain⟨d1,q1,c1,p1,r1,m1,m2,_,m3,m4,m5,_⟩:=(h.kp0 hk08).bat gi
     obtain⟨rfl,_,_⟩:=m5.sl_len
     obtain⟨ad,cs,rfl,hv1,_,_,_,hpt⟩:=m5.sl_get2 gm
     obtain⟨b1,t1,u1,b2,t2,u2,rfl,y1,y2⟩:=hv1.cell
     exact⟨_,_,_,m1,d1,rfl,by omega,hlt,_,_,_,m4,ad,rfl,by omega,hlt2,_,_,_,hpt 1 [_] rfl,ae.2 (by omega),fun w9 hw9=>⟨⟨m+1,i,_,_,rfl,by omega,hk08.trans hw9,y2.kp0 hw9,.inr ⟨rfl,_,List.getElem_mem gm,ht,rfl⟩⟩,by dsimp only;omega⟩⟩
    ·rw[lb gm]at hmem
     exact hmem.elim (fun h=>of_decide_eq_false hf h.symm) h3
   ·refine⟨n5,v',_,rfl,hk7,?_,hR7⟩
    rcases hS with ⟨rfl,rfl,h3⟩|⟨rfl,c,hc,h1,h2⟩
    ·rw[List.take_of_length_le (by omega)]at h3
     exact hL.stay gi fun v' ⟨_,c,hc,h4,_⟩=>h3 (List.mem_map.2 ⟨c,hc,h4⟩)
    ·exact hL.new gi ⟨hnm,c,hc,h1,h2⟩ hg
  ·rintro n7 a17 k33 k34 w10 ⟨n,v,s,hv,hk10,hL',hR'⟩
   simp only[List.cons.injEq,Value.int.injEq,true_and,and_true]at hv
   obtain⟨rfl,rfl⟩:=hv
   exact⟨ae.2 (by omega),⟨i+1,n7,v,_,rfl,by omega,hk10,hL',hR'⟩,by dsimp only;omega⟩
 ·obtain rfl:i=l.length:=by omega
  exact⟨hk1,n1,v,_,_,_,rfl,hL,hR.weak fun b hb=>by simp[hb]⟩
theorem tW{M:List Nat}{w:World}{r:Nat}{n u:Int}{first:List Nm}{l:List Bt}(h:aT M w r n first l u)(hM:∀b∈M,b<w.heap.size)(hl:l.length<=1000):
 Calls Zz 89 #[pK r] w fun e w'=>∃a m c,e=.returned (.slice a m c)/\KpL [] w w'/\R (au tS) M w' (l.map (·.token)) [.slice a m c]:=by
 have hmx:az=140737488355328:=rfl
 refine vm ⟨fun vs w'=>∃(i:Nat) (a:Option Addr) (m c:Nat),vs=[.slice a m c,iv (i:Int)]/\i<=l.length/\aZ tS M w none ((l.take i).map (·.token)) a m c w',
  fun vs _=>match vs with|[_,.int _ i]=>l.length - i.toNat|_=>0,⟨0,none,0,0,rfl,by omega,bI.nil' _ hM,KpL.refl _ _,by simp[aj]⟩,?_⟩
 rintro a1 k1 k2 n1 w1 ⟨i,_,_,_,hv,hi,hC⟩
 simp only[List.cons.injEq,Value.int.injEq,Value.slice.injEq,true_and,and_true]at hv
 obtain⟨⟨rfl,rfl,rfl⟩,rfl⟩:=hv
 have hlA:=hC.acc.len
 rw[List.length_map,List.length_take,Nat.min_eq_left hi]at hlA
 obtain⟨a2,q2,l2,_⟩:=(h.kp0 hC.kpn).ldL
 refine⟨_,_,_,l2,fun hlt=>?_,fun hge=>?_⟩
 ·have gi:i<l.length:=by omega
  obtain⟨d1,q1,c1,p1,r1,m1,_,m2,_,_,_,hsz⟩:=(h.kp0 hC.kpn).bat gi
  refine⟨_,_,_,m1,d1,rfl,by omega,hlt,_,m2,fun k7 g7 w2 hw2 l7 hkn=>?_⟩
  have hC':=hC.kp0 hw2
  refine aD FE hC'.acc hkn (x:=l[i].token) ⟨rfl,hsz⟩ (by omega) fun a' c' w3 hC2=>⟨_,_,_,rfl,_,hC2.kp,⟨fun hm'=>?_⟩,ae.2 (by omega),⟨i+1,a',_,c',rfl,by omega,?_⟩,by dsimp only;omega⟩
  ·have:=(hC.acc.blk_lt _ hm').1;omega
  ·rw[<-List.take_append_getElem gi,List.map_append]
   exact hC'.trans hC2
 ·rw[List.take_of_length_le (by omega)]at hC
  exact⟨_,_,_,rfl,hC.kpn,hC.acc.done (by omega)⟩
theorem xG{M:List Nat}{w:World}{r:Nat}{n u:Int}{first:List Nm}{l:List Bt}(h:aT M w r n first l u)(hf:first.length<=1000)(nm:ByteArray):
 Calls Zz 175 #[pK r,.string nm] w (aA (iv (aI first nm)) w):=by
 refine x7 ⟨Ix w first.length fun i=>idxOf (fun x=>decide (x.name=nm)) (first.drop i) i=aI first nm,oF first.length,Ix.start (KpL.refl _ _) rfl,?_⟩
 rintro n1 w1 ⟨i,hv,hi,hk,he⟩
 obtain rfl:=v1 hv
 obtain⟨a2,q2,l2,_⟩:=(h.kp0 hk).ldF
 refine⟨_,_,_,l2,fun hlt=>?_,fun hge=>?_⟩
 ·have gi:i<first.length:=by omega
  obtain⟨d,q,_,_,_,_,_,_,_,_,_,m1,m2,_⟩:=(h.kp0 hk).nm gi
  rw[List.drop_eq_getElem_cons gi,idxOf]at he
  refine⟨_,_,_,m1,d,rfl,by omega,hlt,_,m2,fun hq=>⟨?_,hk⟩,fun hq=>Ix.next gi (by omega) hk ?_⟩
  ·rw[<-he,if_pos (decide_eq_true hq)]
  ·rw[if_neg (by rw[decide_eq_false hq];simp)]at he
   exact he
 ·rw[List.drop_eq_nil_of_le (by omega)]at he
  exact⟨by rw[<-he];rfl,hk⟩
theorem uz{M M2:List Nat}{w:World}{x:zj}{c:aR}{cs:List Value}{c1 c2:Option Addr}{n1 q1 n2 q2:Nat}(hx:R uY M w x cs)(h1:R (au (tI .i64)) M2 w c.at_ [.slice c1 n1 q1])(h2:R (au cv) M2 w c.vals [.slice c2 n2 q2]):
 Calls Zz 176 #[.agg cs.toArray,.agg #[.slice c1 n1 q1,.slice c2 n2 q2]] w (aA (iv (bF x.dims x.attrs c)) w):=by
 obtain⟨a1,p1,r1,a2,p2,r2,a3,p3,r3,rfl,x1,x2,x3⟩:=hx.arr
 obtain⟨rfl,_,_⟩:=h1.sl_len
 obtain⟨rfl,_,_⟩:=h2.sl_len
 obtain⟨rfl,_,_⟩:=x1.sl_len
 obtain⟨rfl,_,_⟩:=x2.sl_len
 have e0:bF x.dims x.attrs c=if c.at_.length≠x.dims.length∨(c.vals.length≠0/\c.vals.length≠x.attrs.length) then 13 else if lU x.dims c.at_=false then 3 else if cH x.attrs c.vals=false then 12 else 0:=rfl
 have sh:c.at_.length≠x.dims.length∨(c.vals.length≠0/\c.vals.length≠x.attrs.length)->∀{w':World},KpL [] w w'->aA (iv (bF x.dims x.attrs c)) w (.returned (iv 13)) w':=fun h w' hk=>⟨by rw[e0,if_pos h],hk⟩
 refine tV fun _ _ _ _=>⟨fun vs w'=>KpL [] w w'/\¬(c.at_.length≠x.dims.length∨(c.vals.length≠0/\c.vals.length≠x.attrs.length)),fun w1 hw1=>⟨fun g1=>⟨fun g2=>⟨fun g3=>sh (by omega) hw1,fun g3=>⟨hw1,by omega⟩⟩,fun g2=>⟨hw1,by omega⟩⟩,fun g1=>sh (by omega) hw1⟩,?_⟩
 rintro w5 ⟨hk5,hsh⟩
 rw[if_neg hsh]at e0
 refine⟨(AD (x1.kp0 hk5) (h1.kp0 hk5)).mono ?_⟩
 rintro e w6 ⟨rfl,hk6⟩
 have hk06:=hk5.trans hk6
 refine⟨_,rfl,hk6,fun hb=>⟨by rw[e0,if_pos (gU hb)],hk06⟩,fun hb=>⟨fun hz=>⟨?_,hk06⟩,fun hnz=>⟨(rT (x1.kp0 hk06) (x2.kp0 hk06) (h1.kp0 hk06) (h2.kp0 hk06)).mono ?_⟩⟩⟩
 ·rw[if_neg (by rw[eP hb];simp)]at e0
  rw[e0,List.eq_nil_of_length_eq_zero (l:=c.vals) (by omega)]
  simp[cH]
 ·rintro e w7 ⟨rfl,hk7⟩
  refine⟨_,rfl,hk7,?_,hk06.trans hk7⟩
  rw[e0]
  unfold cT
  rw[if_neg (by omega)]
end Go.Vc
namespace Go.Vc
open Go Go.Proofs
def rm(ars:List Nm)(b:Bt):Int:=bg.checkE ⟨0,ars,[],[],0⟩ b
theorem wj{k:Int}{cs:List aR}{d:Nat}(hd:∀c∈cs,c.at_.length=d)(h4:d<=4){i:Nat}(hi:i<cs.length):be k cs[i].at_∈(cs.take i).map (fun c=>be k c.at_)↔cs[i].at_∈(cs.take i).map (·.at_):=by
 simp only[List.mem_map]
 constructor
 ·rintro⟨c,hc,he⟩
  have h1:=hd c (List.mem_of_mem_take hc)
  have h2:=hd _ (List.getElem_mem hi)
  exact⟨c,hc,gK he (by omega) (by omega)⟩
 ·rintro⟨c,hc,he⟩
  exact⟨c,hc,by rw[he]⟩
theorem yw{M M1:List Nat}{w:World}{r:Nat}{n u:Int}{first:List Nm}{l:List Bt}(h:aT M w r n first l u)(hf:first.length<=1000)(hsch:∀x∈first,x.arr.dims.length<=4){b:Bt}{ca:Option Addr}{cn cc:Nat}(hc:R (au aC) M1 w b.changes [.slice ca cn cc]):
 Calls Zz 144 #[pK r,.agg #[.string b.token,iv b.stamp,.string b.array,.slice ca cn cc]] w (aA (iv (rm first b)) w):=by
 have hmx:az=140737488355328:=rfl
 obtain⟨rfl,_,_⟩:=hc.sl_len
 have e0:rm first b=if bx b.token=false then 11 else if b.stamp<0∨1099511627776<b.stamp then 3 else match first[(aI first b.array).toNat]? with
  |none=>4
  |some x=>if aI first b.array<0 then 4 else if b.changes.length<1∨16<b.changes.length then 9 else if cr x.arr.dims x.arr.attrs b.changes≠0 then cr x.arr.dims x.arr.attrs b.changes else lQ (aI first b.array) [] b.changes:=rfl
 refine xk fun k1 hk1 w1 hw1 _=>⟨(km _ w1).mono ?_⟩
 rintro e w2 ⟨rfl,hk2⟩
 have hw2:=hw1.trans hk2
 refine⟨_,rfl,hk2,fun hb=>⟨by rw[e0,if_pos (gU hb)],hw2⟩,fun hb=>?_⟩
 rw[if_neg (by rw[eP hb];simp)]at e0
 refine⟨fun g1=>⟨fun g2=>⟨by rw[e0,if_pos (by omega)],hw2⟩,fun g2=>⟨(xG (h.kp0 hw2) hf b.array).mono ?_⟩⟩,fun g1=>⟨by rw[e0,if_pos (by omega)],hw2⟩⟩
 rw[if_neg (by omega)]at e0
 rintro e w3 ⟨rfl,hk3⟩
 have hw3:=hw2.trans hk3
 have hlt:=gE first b.array
 refine⟨_,rfl,hk3,fun g3=>⟨?_,hw3⟩,fun g3=>?_⟩
 ·rw[e0]
  split
  ·rfl
  ·rw[if_pos g3]
 obtain⟨k,hk⟩:∃k:Nat,aI first b.array=k:=⟨(aI first b.array).toNat,by omega⟩
 rw[hk]at e0 hlt g3 ⊢
 have gk:k<first.length:=by omega
 obtain⟨x,hx⟩:∃x,x=first[k]:=⟨_,rfl⟩
 have hxm:x∈first:=by rw[hx];exact List.getElem_mem gk
 rw[Int.toNat_natCast,List.getElem?_eq_getElem gk,<-hx]at e0
 dsimp only at e0
 rw[if_neg (by omega)]at e0
 refine⟨fun g4=>⟨fun g5=>⟨by rw[e0,if_pos (by omega)],hw3⟩,fun g5=>?_⟩,fun g4=>⟨by rw[e0,if_pos (by omega)],hw3⟩⟩
 rw[if_neg (by omega)]at e0
 refine⟨Ix w b.changes.length fun i=>cr x.arr.dims x.arr.attrs (b.changes.drop i)=cr x.arr.dims x.arr.attrs b.changes,oF b.changes.length,Ix.start hw3 rfl,?_⟩
 rintro n2 w4 ⟨i,hv,hi,hk4,he⟩
 obtain rfl:=v1 hv
 constructor
 ·intro hlt2
  have gi:i<b.changes.length:=by omega
  obtain⟨d,q,b1,p1,q1,b2,p2,q2,b3,p3,q3,m1,_,m2,_,_,_,x1,x2,x3⟩:=(h.kp0 hk4).nm gk
  rw[<-hx]at x1 x2 x3
  obtain⟨ad,cs,rfl,hv1,hld,_,_⟩:=(hc.kp0 hk4).sl_get gi
  obtain⟨a6,p6,q6,a7,p7,q7,rfl,y1,y2⟩:=hv1.cell
  rw[List.drop_eq_getElem_cons gi,cr]at he
  refine⟨_,_,_,m1,d,rfl,by omega,by omega,_,_,_,_,_,_,_,_,_,m2,ad,rfl,by omega,hlt2,_,_,_,_,_,_,hld,fun w5 hw5=>⟨(uz ((R.mkArr x1 x2 x3).kp0 hw5) (y1.kp0 hw5) (y2.kp0 hw5)).mono ?_⟩⟩
  rintro e w6 ⟨rfl,hk6⟩
  have hk06:=(hk4.trans hw5).trans hk6
  refine⟨_,rfl,hk6,fun hne=>⟨?_,hk06⟩,fun hz=>?_⟩
  ·rw[if_pos hne]at he
   rw[e0,if_pos (by rw[<-he];exact hne),he]
  ·rw[if_neg hz]at he
   exact Ix.next gi (by omega) hk06 he
 intro hge
 rw[List.drop_eq_nil_of_le (by omega),cr]at he
 rw[if_neg (by rw[<-he];simp)]at e0
 have hcz:∀c∈b.changes,c.at_.length=x.arr.dims.length:=fun c hc=>by
  have:=g9 he.symm c hc
  unfold bF at this
  split at this
  ·cases this
  ·omega
 have h4:=hsch x hxm
 refine⟨Ix w b.changes.length fun i=>lQ k ((b.changes.take i).map fun c=>be k c.at_) (b.changes.drop i)=rm first b,oF b.changes.length,Ix.start hk4 (by rw[e0];rfl),?_⟩
 rintro n4 w7 ⟨i,hv,hi,hk7,he7⟩
 obtain rfl:=v1 hv
 constructor
 ·intro hlt2
  have gi:i<b.changes.length:=by omega
  rw[List.drop_eq_getElem_cons gi,lQ]at he7
  refine⟨Ix w i fun j=>b.changes[i].at_∉(b.changes.take j).map (·.at_),oF i,Ix.start hk7 (by simp),?_⟩
  rintro n5 w8 ⟨j,hv,hj,hk8,hm⟩
  obtain rfl:=v1 hv
  constructor
  ·intro hlt3
   have gj:j<b.changes.length:=by omega
   obtain⟨ad,cs,rfl,hv1,_,_,_,hpt⟩:=(hc.kp0 hk8).sl_get2 gi
   obtain⟨a6,p6,q6,a7,p7,q7,rfl,y1,_⟩:=hv1.cell
   obtain⟨ad',cs',e',hv1',_,_,_,hpt'⟩:=(hc.kp0 hk8).sl_get2 gj
   obtain⟨a6',p6',q6',a7',p7',q7',rfl,y1',_⟩:=hv1'.cell
   refine⟨ad,rfl,by omega,hlt2,_,_,_,hpt 0 [_] rfl,ad',e',by omega,by omega,_,_,_,hpt' 0 [_] rfl,fun w9 hw9=>⟨(gS (y1.kp0 hw9) (y1'.kp0 hw9)).mono ?_⟩⟩
   rintro e w10 ⟨rfl,hk10⟩
   have hk010:=(hk8.trans hw9).trans hk10
   refine⟨_,rfl,hk10,fun ht=>⟨?_,hk010⟩,fun hf=>Ix.next (P:=fun j=>b.changes[i].at_∉(b.changes.take j).map (·.at_)) (by omega) (by omega) hk010 fun hmem=>?_⟩
   ·rw[<-he7,if_pos]
    rw[wj hcz h4 gi]
    exact List.mem_map.2 ⟨b.changes[j],List.mem_take_iff_getElem.2 ⟨j,by omega,rfl⟩,(of_decide_eq_true ht).symm⟩
   ·rw[lb gj]at hmem
    exact hmem.elim (of_decide_eq_false hf) hm
  ·intro hge3
   obtain rfl:j=i:=by omega
   rw[if_neg (by rw[wj hcz h4 gi];exact hm)]at he7
   refine Ix.next gi (by omega) hk8 ?_
   rw[<-List.take_append_getElem gi,List.map_append]
   exact he7
 ·intro hge2
  rw[List.drop_eq_nil_of_le (by omega),lQ]at he7
  exact⟨by rw[<-he7],hk7⟩
theorem aT.setU{M:List Nat}{w:World}{r:Nat}{n u u':Int}{first:List Nm}{l:List Bt}(h:aT M w r n first l u):
 (∃l,ao w ((Addr.mk r 0 none).add 3) l/\l.length=1)/\aq w ((Addr.mk r 0 none).add 3) 1/\aT M (bL w ((Addr.mk r 0 none).add 3) [iv u'] 0) r n first l u'/\KpL [r] w (bL w ((Addr.mk r 0 none).add 3) [iv u'] 0):=by
 obtain⟨a,p,q,b,m,c,h1,h2,h3,h4⟩:=h
 obtain⟨s1,s2,s3,s4,s5⟩:=zq (i:=3) (v:=iv u') h1 (by simp)
 exact⟨s1,s2,⟨a,p,q,b,m,c,s4,h2,h3.kp s5 (by simp),h4.kp s5 (by simp)⟩,s5⟩
theorem aT.setL{M:List Nat}{w:World}{r:Nat}{n u:Int}{first:List Nm}{l l':List Bt}(h:aT M w r n first l u){a:Option Addr}{m c:Nat}(hl:R (au B8) (r::M) w l' [.slice a m c]):
 (∃l,ao w ((Addr.mk r 0 none).add 2) l/\l.length=1)/\aq w ((Addr.mk r 0 none).add 2) 1/\aT M (bL w ((Addr.mk r 0 none).add 2) [.slice a m c] 0) r n first l' u/\KpL [r] w (bL w ((Addr.mk r 0 none).add 2) [.slice a m c] 0):=by
 obtain⟨a1,p,q,b,m1,c1,h1,h2,h3,h4⟩:=h
 obtain⟨s1,s2,s3,s4,s5⟩:=zq (i:=2) (v:=.slice a m c) h1 (by simp)
 exact⟨s1,s2,⟨a1,p,q,a,m,c,s4,h2,h3.kp s5 (by simp),hl.kp s5 (by simp)⟩,s5⟩
theorem aT.ldU{M:List Nat}{w:World}{r:Nat}{n u:Int}{first:List Nm}{l:List Bt}(h:aT M w r n first l u):ao w ((Addr.mk r 0 none).add 3) [iv u]/\ao w ((Addr.mk r 0 none).add 0) [iv n]/\r<w.heap.size/\r∉M:=by
 obtain⟨a,p,q,b,m,c,h1,h2,_⟩:=h
 exact⟨by rw[al];exact ak h1 3 [_] rfl,by rw[al];exact ak h1 0 [_] rfl,ab h1,h2⟩
theorem aT.weak{M M':List Nat}{w:World}{r:Nat}{n u:Int}{first:List Nm}{l:List Bt}(h:aT M w r n first l u)(hs:∀b∈M',b∈M):aT M' w r n first l u:=by
 obtain⟨a,p,q,b,m,c,h1,h2,h3,h4⟩:=h
 have e:∀b∈r::M',b∈r::M:=fun b hb=>(List.mem_cons.1 hb).elim (fun h=>by simp[h]) fun h=>by simp[hs b h]
 exact⟨a,p,q,b,m,c,h1,fun hr=>h2 (hs r hr),h3.weak e,h4.weak e⟩
theorem aT.fresh{M N:List Nat}{w w':World}{r:Nat}{n u:Int}{first:List Nm}{l:List Bt}(h:aT M w r n first l u)(hk:KpL [] w w')(hN:∀b∈N,w.heap.size<=b):aT (N++M) w' r n first l u:=by
 obtain⟨a,p,q,b,m,c,h1,h2,h3,h4⟩:=h
 have hr:=ab h1
 have e:∀b∈r::(N++M),b∈N++(r::M):=fun b hb=>by simp at hb ⊢;rcases hb with h|h|h<;>simp[h]
 exact⟨a,p,q,b,m,c,(hk.blk r hr (by simp)).trans h1,fun hm=>(List.mem_append.1 hm).elim (fun h=>by have:=hN r h;omega) h2,(h3.fresh hk hN).weak e,(h4.fresh hk hN).weak e⟩
theorem aT.cons{M:List Nat}{w w':World}{r:Nat}{n u:Int}{first:List Nm}{l:List Bt}(h:aT M w r n first l u)(hk:KpL [] w w'){k:Nat}(hg:w.heap.size<=k):aT (k::M) w' r n first l u:=h.fresh (N:=[k]) hk (by simpa using hg)
def nE(M:List Nat)(w:World)(r:Nat)(n u:Int)(first:List Nm)(l:List Bt)(b:Bt)(e:Ending)(w':World):Prop :=
 if rm first b≠0 then e=.returned (.tuple #[.bool false,iv (rm first b)])/\KpL [] w w' else if b.token∈l.map (·.token) then e=.returned (.tuple #[.bool false,iv 0])/\KpL [] w w'
 else if (n - 2) / 2<u+b.weight then e=.returned (.tuple #[.bool false,iv 18])/\KpL [] w w' else e=.returned (.tuple #[.bool true,iv 0])/\KpL [r] w w'/\aT M w' r n first (l++[b]) (u+b.weight)
theorem Cb{M M1:List Nat}{w:World}{r:Nat}{n u:Int}{first:List Nm}{l:List Bt}(h:aT M w r n first l u)(hM:∀b∈M,b<w.heap.size)(hf:first.length<=1000)(hsch:∀x∈first,x.arr.dims.length<=4/\x.arr.attrs.length<=6)(hll:l.length<=1000)(hn:2<=n/\n<=100000)(hu:0<=u/\u<=100000){b:Bt}{ca:Option Addr}{cn cc:Nat}(hb:R B8 (r::M1) w b [.string b.token,iv b.stamp,.string b.array,.slice ca cn cc])(hc20:b.changes.length<=20):
 Calls Zz 86 #[pK r,.agg #[.string b.token,iv b.stamp,.string b.array,.slice ca cn cc]] w (nE M w r n u first l b):=by
 have hmx:az=140737488355328:=rfl
 obtain⟨_,_,_,e,hz1,hz2,hz3,hc⟩:=hb.bt
 simp only[List.cons.injEq,Value.slice.injEq,true_and,and_true]at e
 obtain⟨rfl,rfl,rfl⟩:=e
 obtain⟨rfl,_,_⟩:=hc.sl_len
 have hbw:b.weight=2+3*(b.changes.length:Int):=rfl
 refine Cf fun k1 hk1 w1 hw1 l1=>⟨(yw (h.kp0 hw1) hf (fun x hx=>(hsch x hx).1) (hc.kp0 hw1)).mono ?_⟩
 rintro e w2 ⟨rfl,hk2⟩
 have hw2:=hw1.trans hk2
 have l2:k1<w2.heap.size:=Nat.lt_of_lt_of_le l1 hk2.size
 refine⟨_,rfl,hk2,fun hne=>by unfold nE;rw[if_pos hne];exact⟨rfl,hw2⟩,fun hz=>?_⟩
 have hok:=et (Classical.not_not.1 hz)
 have f1:b.token∈l.map (·.token)->∀{w'},KpL [] w w'->nE M w r n u first l b (.returned (.tuple #[.bool false,iv 0])) w':=fun h1 w' hk=>by unfold nE;rw[if_neg hz,if_pos h1];exact⟨rfl,hk⟩
 refine⟨fun vs w'=>Ix w l.length (fun i=>b.token∉(l.take i).map (·.token)) vs w'/\KpL [] w2 w',oF l.length,⟨Ix.start hw2 (by simp),KpL.refl _ _⟩,?_⟩
 rintro n2 w3 ⟨⟨i,hv,hi,hk3,hm⟩,hk23⟩
 obtain rfl:=v1 hv
 obtain⟨a2,q2,ll,_⟩:=(h.kp0 hk3).ldL
 refine⟨_,_,_,ll,fun hlt=>?_,fun hge=>?_⟩
 ·have gi:i<l.length:=by omega
  obtain⟨d1,q1,c1,p1,r1,m1,_,m2,_,_,_,_⟩:=(h.kp0 hk3).bat gi
  refine⟨_,_,_,m1,d1,rfl,by omega,hlt,_,m2,fun hq w4 hw4=>f1 (List.mem_map.2 ⟨_,List.getElem_mem gi,hq⟩) (hk3.trans hw4),fun hq=>?_⟩
  have:=Ix.next (w:=w) (n:=l.length) (i:=i) (P:=fun j=>b.token∉(l.take j).map (·.token)) (w':=w3) (w1:=w3) (w0:=w3) gi (by omega) hk3 (cJ gi hm hq)
  exact⟨this.1,fun w5 hw5=>⟨⟨⟨i+1,rfl,by omega,hk3.trans hw5,cJ gi hm hq⟩,hk23.trans hw5⟩,this.2.2⟩⟩
 rw[List.take_of_length_le (by omega)]at hm
 obtain⟨lu,ln,hr,hrM⟩:=(h.kp0 hk3).ldU
 obtain⟨_,_,hr0,_⟩:=h.ldU
 refine⟨ae.2 (by omega),ae.2 (by omega),u,lu,ae.2 (by omega),n,ln,fun w6 hw6=>⟨(jV hn w6).mono ?_⟩⟩
 rintro e w7 ⟨rfl,hk7⟩
 have hk07:=(hk3.trans hw6).trans hk7
 refine⟨_,rfl,hk7,fun hfull=>by unfold nE;rw[if_neg hz,if_neg hm,if_pos (by omega)];exact⟨rfl,hk07⟩,fun hfit=>?_⟩
 obtain⟨s1,s2,hR8,s5⟩:=(h.cons hk07 hk1).setU (u':=u+(2+3*(b.changes.length:Int)))
 refine⟨u,((h.kp0 hk07).ldU).1,ae.2 (by omega),s1,s2,⟨by simp;omega⟩,fun w8 hw8=>?_⟩
 rw[<-hw8]at hR8 s5
 clear hw8
 obtain⟨a3,q3,l3,hL⟩:=hR8.ldL
 refine⟨_,_,_,l3,fun w9 hw9=>?_⟩
 have s8:=s5.size
 have s7:=((hk23.trans hw6).trans hk7).size
 have s9:=hw9.size
 have s07:=hk07.size
 have hK9:∀x∈r::k1::M,x<w9.heap.size:=by
  intro x hx
  simp only[List.mem_cons]at hx
  rcases hx with rfl|rfl|hx
  ·omega
  ·omega
  ·have:=hM x hx;omega
 have hk09:KpL [r] w w9:=((hk07.mono (by simp)).trans s5).trans (hw9.mono (by simp))
 refine wD (M:=r::k1::M) (xs:=l) EV hK9 (hL.kp0 hw9).srcsM (by omega:(2*l.length+768)*64<=_) (fun l hl=>⟨fun h=>by have:=hl _ h;have:=hK9 k1 (by simp);omega⟩) fun a5 c5 w11 hC=>?_
 have hk11:KpL [r] w w11:=hk09.trans (hC.kpn.mono (by simp))
 have hc11:=hc.kp hk11 (by simp)
 obtain⟨x,hx,hck⟩:=hok.arr
 have hxs:=hsch x (List.mem_of_getElem? hx)
 have hcl:∀c∈b.changes,c.at_.length<=1000/\c.vals.length<=1000:=fun c hcm=>by
  have:=hck c hcm
  unfold bF at this
  split at this
  ·cases this
  ·omega
 have hK11:∀y∈aj a5++(r::k1::M),y<w11.heap.size:=fun y hy=>(List.mem_append.1 hy).elim (fun h=>(hC.acc.blk_lt y h).1) (hC.acc.mlt y)
 refine fun hb1=>⟨⟨ak hb1 0 _ rfl,trivial⟩,⟨(vB hK11 hc11 (by omega) hcl).mono ?_⟩⟩
 rintro e w12 ⟨a6,n6,c6,rfl,hk12,hR12⟩
 refine⟨_,_,_,_,_,_,rfl,hk12,fun k14 g14 w13 hw13 l14 hkn=>?_⟩
 have hk1113:=hk12.trans hw13
 have hA:=hC.kp0 hk1113
 refine aD EV hA.acc hkn (x:=b) (R.mkBt hz1 hz2 hz3 (hR12.kp0 hw13)) (by omega) fun a' c' w14 hC2=>?_
 have hown:∀y∈aj a5,w9.heap.size<=y:=fun y hy=>(hC.own y hy).resolve_left (by simp[aj])
 have h14:aT M w14 r n first l (u+(2+3*(b.changes.length:Int))):=(((hR8.kp0 hw9).fresh (N:=aj a5) (hC.kpn.trans hk1113) hown).kp hC2.kp fun y hy=>by simp[hy]).weak fun y hy=>by simp[hy]
 have hF:=hA.trans hC2
 have hlA:=hF.acc.len
 have s12:=hk12.size
 have s11:=hC.kpn.size
 obtain⟨t1,t2,t3,t4⟩:=h14.setL (l':=l++[b]) (a:=a') (m:=l.length+1) (c:=c') ((hC2.acc.done (show l.length+1<=az by omega)).weak fun y hy=>by rcases List.mem_cons.1 hy with h|h<;>simp[h])
 refine⟨_,_,_,rfl,_,hC2.kp,⟨⟨fun hm'=>?_⟩,hA.acc.out (by simp)⟩,t1,t2,⟨⟨by simp;omega⟩,⟨by simp;omega⟩⟩,fun w15 hw15=>?_⟩
 ·have:=(hC.acc.blk_lt _ hm').1;omega
 rw[<-hw15]at t3 t4
 unfold nE
 rw[if_neg hz,if_neg hm,if_neg (by omega)]
 refine⟨rfl,?_,t3⟩
 exact((hk11.trans (hk1113.mono (by simp))).more hC2.kp fun y hy=>.inr (by have:=hown y hy;omega)).trans t4
end Go.Vc
namespace Go.Vc
open Go Go.Proofs
theorem aT.nsz{M:List Nat}{w:World}{r:Nat}{n u:Int}{first:List Nm}{l:List Bt}(h:aT M w r n first l u){k:Nat}(hk:k<first.length):first[k].name.size<=9223372036854775807:=by
 obtain⟨a,q,_,h2⟩:=h.ldF
 obtain⟨ad,cs,_,hv1,_,_⟩:=h2.sl_get hk
 obtain⟨_,_,_,_,_,_,_,_,_,_,h3,_⟩:=hv1.nm
 exact h3
theorem aT.data{α:Type}{e:Ty α}{K:List Nat}{w w':World}{r:Nat}{n u:Int}{first:List Nm}{l:List Bt}{a a':Option Addr}{xs:List α}{m c:Nat}(h:aT (aj a++K) w r n first l u)(hD:aZ e K w a xs a' m c w'):aT (aj a'++K) w' r n first l u:=by
 obtain⟨b1,b2,b3,b4,b5,b6,z1,z2,z3,z4⟩:=h
 have hr:=ab z1
 have z2:r∉aj a/\r∉K:=by simpa using z2
 have e1:∀b∈aj a++(r::K),b∈r::(aj a++K):=fun b hb=>by simp at hb ⊢;rcases hb with h|h|h<;>simp[h]
 have e2:∀b∈r::(aj a'++K),b∈aj a'++(r::K):=fun b hb=>by simp at hb ⊢;rcases hb with h|h|h<;>simp[h]
 exact⟨b1,b2,b3,b4,b5,b6,(hD.kp.blk r hr z2.1).trans z1,fun hm=>(List.mem_append.1 hm).elim (fun h=>(hD.own r h).elim z2.1 fun hge=>by omega) z2.2,(hD.data (z3.weak e1)).weak e2,(hD.data (z4.weak e1)).weak e2⟩
def uB(x:Nm)(l:List Bt)(p:List Int)(v:List Vl):Prop:=∃n v0,tQ x.name l l.length p n v0/\(0<=n/\v=v0∨n<0/\⟨p,v⟩∈x.arr.cells)
structure kN (first:List Nm) (l:List Bt):Prop where
 f:first.length<=16
 sh:∀x∈first,x.arr.dims.length<=4/\x.arr.attrs.length<=6
 cn:∀x∈first,x.arr.cells.length<=8
 cs:∀x∈first,bq x.arr.cells
 cl:∀x∈first,∀c∈x.arr.cells,c.at_.length<=1000/\c.vals.length<=1000
 ln:l.length<=20
 bn:∀b∈l,b.changes.length<=20
 bl:∀b∈l,∀c∈b.changes,c.at_.length<=1000/\c.vals.length<=1000
 bd:∀b∈l,(b.changes.map (·.at_)).Nodup
 tk:(l.map (·.token)).Nodup
theorem Ca.uniq{nm:ByteArray}{b:Bt}{p:List Int}{v v':List Vl}(hd:(b.changes.map (·.at_)).Nodup)(h:Ca nm b p v)(k:Ca nm b p v'):v=v':=by
 obtain⟨_,c,hc,h1,rfl⟩:=h
 obtain⟨_,d,hd',h2,rfl⟩:=k
 rw[pW hd hc hd' (h1.trans h2.symm)]
theorem uB.uniq{first:List Nm}{x:Nm}{l:List Bt}(hO:kN first l)(hx:x∈first){p:List Int}{v v':List Vl}(h:uB x l p v)(k:uB x l p v'):v=v':=by
 obtain⟨n,v0,h1,h2⟩:=h
 obtain⟨m,w0,k1,k2⟩:=k
 rcases h1 with ⟨rfl,h1⟩|⟨i,b,rfl,h3,h4,h5,h6⟩<;>rcases k1 with ⟨rfl,k1⟩|⟨j,c,rfl,k3,k4,k5,k6⟩
 ·rcases h2 with h2|h2
  ·omega
  rcases k2 with k2|k2
  ·omega
  have:=tg (hO.cs x hx) h2.2 k2.2 rfl
  simpa using this
 ·have hc:c∈l:=List.mem_of_getElem? k4
  rw[List.take_length]at h1
  exact absurd k5 (h1 c hc _)
 ·have hc:b∈l:=List.mem_of_getElem? h4
  rw[List.take_length]at k1
  exact absurd h5 (k1 b hc _)
 ·have hb:b∈l:=List.mem_of_getElem? h4
  have hc:c∈l:=List.mem_of_getElem? k4
  rw[List.take_length]at h6 k6
  have e:b=c:=by
   rcases h6 c hc ⟨_,k5⟩ with e|g1
   ·exact e.symm
   rcases k6 b hb ⟨_,h5⟩ with e|g2
   ·exact e
   ·exact absurd g2 fun g2=>bH.gt_asymm g1 g2
  subst e
  have:=h5.uniq (hO.bd b hb) k5
  subst this
  rcases h2 with h2|h2
  ·rcases k2 with k2|k2
   ·rw[h2.2,k2.2]
   ·omega
  ·omega
theorem uB.spot{x:Nm}{l:List Bt}{p:List Int}{v:List Vl}(h:uB x l p v):kD x l p:=by
 obtain⟨n,v0,h1,h2⟩:=h
 rcases h2 with ⟨h2,_⟩|⟨_,h2⟩
 ·rcases h1 with ⟨rfl,_⟩|⟨i,b,rfl,h3,h4,⟨h5,c,hc,h6,_⟩,_⟩
  ·omega
  ·exact .inr ⟨b,List.mem_of_getElem? h4,h5,List.mem_map.2 ⟨c,hc,h6⟩⟩
 ·exact .inl (List.mem_map.2 ⟨_,h2,rfl⟩)
theorem kN.spot{first:List Nm}{l:List Bt}(hO:kN first l){x:Nm}(hx:x∈first){p:List Int}(h:kD x l p):p.length<=1000:=by
 rcases h with h|⟨b,hb,_,h⟩
 ·obtain⟨c,hc,rfl⟩:=List.mem_map.1 h
  exact(hO.cl x hx c hc).1
 ·obtain⟨c,hc,rfl⟩:=List.mem_map.1 h
  exact(hO.bl b hb c hc).1
theorem kN.cur{first:List Nm}{l:List Bt}(hO:kN first l){x:Nm}(hx:x∈first){p:List Int}{v:List Vl}(h:uB x l p v):v.length<=1000:=by
 obtain⟨n,v0,h1,h2⟩:=h
 rcases h2 with ⟨h2,rfl⟩|⟨_,h2⟩
 ·rcases h1 with ⟨rfl,_⟩|⟨i,b,rfl,h3,h4,⟨h5,c,hc,h6,rfl⟩,_⟩
  ·omega
  ·exact(hO.bl b (List.mem_of_getElem? h4) c hc).2
 ·exact(hO.cl x hx _ h2).2
structure CN (x:Nm) (l:List Bt) (y:Nm):Prop where
 nm:y.name=x.name
 ds:y.arr.dims=x.arr.dims
 ats:y.arr.attrs=x.arr.attrs
 so:bq y.arr.cells
 f1:∀c∈y.arr.cells,c.vals≠[]/\uB x l c.at_ c.vals
 b1:∀p v,uB x l p v->v≠[]->⟨p,v⟩∈y.arr.cells
structure E6 (K:List Nat) (r:Nat) (n u:Int) (first:List Nm) (w1 w':World) (x:Nm) (l:List Bt) (ps:List (List Int)) (sd sa sp:Value) (i:Nat) (cells:List aR) (a:Option Addr) (m c:Nat):Prop where
 k:KpL [] w1 w'
 d:R (au bY) (aj a++K) w' x.arr.dims [sd]
 t:R (au bw) (aj a++K) w' x.arr.attrs [sa]
 p:R (au (au (tI .i64))) (aj a++K) w' ps [sp]
 f:aT (aj a++K) w' r n first l u
 c:bI aC K w' cells a m c
 o:∀b∈aj a,w1.heap.size<=b
 s:(cells.map (·.at_)).Sublist (ps.take i)
 f1:∀c∈cells,c.vals≠[]/\uB x l c.at_ c.vals
 b1:∀p∈ps.take i,∀v,uB x l p v->v≠[]->⟨p,v⟩∈cells
theorem E6.kp0{K:List Nat}{r:Nat}{n u:Int}{first:List Nm}{w1 w' w'':World}{x:Nm}{l:List Bt}{ps:List (List Int)}{sd sa sp:Value}{i:Nat}{cells:List aR}{a:Option Addr}{m c:Nat}(h:E6 K r n u first w1 w' x l ps sd sa sp i cells a m c)(hk:KpL [] w' w''):E6 K r n u first w1 w'' x l ps sd sa sp i cells a m c :=
 ⟨h.k.trans hk,h.d.kp0 hk,h.t.kp0 hk,h.p.kp0 hk,h.f.kp0 hk,h.c.kp0 hk,h.o,h.s,h.f1,h.b1⟩
def FL(M:List Nat)(w:World)(first:List Nm)(l:List Bt)(vs:List Value)(w':World):Prop :=
 ∃(i:Nat) (out:List Nm) (a:Option Addr) (m c:Nat),vs=[.slice a m c,iv (i:Int)]/\i<=first.length/\out.length=i/\(∀(j:Nat) x y,first[j]?=some x->out[j]?=some y->CN x l y)/\aZ gG M w none out a m c w'
def Ff(first:List Nm)(vs:List Value)(_:World):Nat:=match vs with|[_,.int _ i]=>first.length - i.toNat|_=>0
theorem tm{M:List Nat}{w w1 w4:World}{r:Nat}{n u:Int}{first:List Nm}{l:List Bt}(h:aT M w r n first l u)(hO:kN first l){i:Nat}(gi:i<first.length){out:List Nm}{a1:Option Addr}{k1 k2:Nat}(hC:aZ gG M w none out a1 k1 k2 w1)(hl:out.length=i)
 (hout:∀(j:Nat) x y,first[j]?=some x->out[j]?=some y->CN x l y){k19:Nat}(hk14:KpL [] w1 w4)(g19:w1.heap.size<=k19)(l19:k19<w4.heap.size){a7:Option Addr}{k13 k14:Nat}{a8:Option Addr}{k15 k16:Nat}
 (r1:R (au bY) (k19::(aj a1++M)) w4 first[i].arr.dims [.slice a7 k13 k14])(r2:R (au bw) (k19::(aj a1++M)) w4 first[i].arr.attrs [.slice a8 k15 k16]):
 qE r i w4 k19 a7 k13 k14 a8 k15 k16 none 0 0 a1 k1 k2 (FL M w first l) (Ff first) w1:=by
 have hmx:az=140737488355328:=rfl
 obtain⟨K,hK⟩:∃K,K=k19::(aj a1++M):=⟨_,rfl⟩
 rw[<-hK]at r1 r2
 obtain⟨x,hx⟩:∃x,x=first[i]:=⟨_,rfl⟩
 have hxm:x∈first:=by rw[hx];exact List.getElem_mem gi
 rw[<-hx]at r1 r2
 have hw4:=hC.kpn.trans hk14
 have own1:∀b∈aj a1,w.heap.size<=b:=fun b hb=>(hC.own b hb).resolve_left (by simp[aj])
 have hKlt:∀b∈K,b<w4.heap.size:=by
  rw[hK]
  refine zl (w:=w1) (M:=aj a1++M) (fun b hb=>?_) hk14 l19
  exact(List.mem_append.1 hb).elim (fun h=>(hC.acc.blk_lt b h).1) (hC.acc.mlt b)
 have hR4:aT K w4 r n first l u:=by
  rw[hK]
  exact h.fresh (N:=k19::aj a1) hw4 fun b hb=>(List.mem_cons.1 hb).elim (fun e=>by have:=hC.kpn.size;omega) (own1 b)
 have hbn:∀b∈l,b.changes.length<=20:=hO.bn
 unfold qE
 refine⟨(ol hR4 hKlt gi (by have:=hO.cn _ (List.getElem_mem gi);omega) (by have:=hO.ln;omega) hbn).mono ?_⟩
 rintro e w5 ⟨a10,m10,c10,ps,rfl,hk45,rp,hps,hpl,hsp⟩
 rw[<-hx]at hsp
 obtain⟨rfl,_,_⟩:=rp.sl_len
 refine⟨_,_,_,rfl,hk45,fun vs w'=>∃(i2:Nat) (cells:List aR) (a:Option Addr) (m c:Nat),vs=[iv (i2:Int),.slice a7 k13 k14,.slice a8 k15 k16,.slice a m c]/\i2<=ps.length/\E6 K r n u first w1 w' x l ps (.slice a7 k13 k14) (.slice a8 k15 k16) (.slice a10 ps.length c10) i2 cells a m c,
  fun vs _=>match vs with|.int _ i::_=>ps.length - i.toNat|_=>0,fun _=>⟨0,[],none,0,0,rfl,by omega,⟨hk14.trans hk45,r1.kp0 hk45,r2.kp0 hk45,rp,hR4.kp0 hk45,bI.nil' _ fun b hb=>Nat.lt_of_lt_of_le (hKlt b hb) hk45.size,by simp[aj],by simp,by simp,by simp⟩⟩,?_⟩
 rintro n2 a11 k22 k23 a12 k24 k25 a13 k26 k27 w6 hb6 ⟨i2,cells,_,_,_,hv,hi2,hS⟩
 simp only[List.cons.injEq,Value.int.injEq,Value.slice.injEq,true_and,and_true]at hv
 obtain⟨rfl,⟨rfl,rfl,rfl⟩,⟨rfl,rfl,rfl⟩,rfl,rfl,rfl⟩:=hv
 have hlA:=hS.c.len
 have hcl:cells.length<=ps.length:=by
  have:=hS.s.length_le
  simp only[List.length_map,List.length_take]at this
  omega
 constructor
 ·intro hlt
  have g2:i2<ps.length:=by omega
  have hpm:ps[i2]∈ps:=List.getElem_mem g2
  have hpl1:=hO.spot hxm ((hsp _).1 hpm)
  have rdp:∀{w':World},KpL [] w6 w'->∃ad q,a10=some ad/\∃b p,q=Value.slice b ps[i2].length p/\ao w' (ad.add (i2*1)) [q]/\R (au (tI .i64)) (aj a13++K) w' ps[i2] [q]:=by
   intro w' hk
   obtain⟨ad,cs,rfl,hv1,hld,_,_⟩:=(hS.p.kp0 hk).sl_get g2
   obtain⟨b,p,rfl⟩:=R.sl_form hv1
   exact⟨ad,_,rfl,b,p,rfl,hld,hv1⟩
  obtain⟨d,q,_,_,_,_,_,_,_,_,_,m1,m2,_⟩:=hS.f.nm gi
  obtain⟨ad,_,rfl,b15,p15,rfl,hld,hvp⟩:=rdp (KpL.refl _ _)
  refine⟨fun vs w'=>∃(cells:List aR) (a:Option Addr) (m c:Nat),vs=[.slice a11 k22 k23,.slice a12 k24 k25,.slice a m c]/\E6 K r n u first w1 w' x l ps (.slice a11 k22 k23) (.slice a12 k24 k25) (.slice (some ad) ps.length c10) (i2+1) cells a m c,
   fun _=>⟨_,_,_,m1,d,rfl,by omega,by omega,_,m2,ad,rfl,by omega,hlt,b15,_,p15,hld,fun w7 hw7=>⟨(BC (hS.f.kp0 hw7) (by have:=hO.ln;omega) hO.tk first[i].name (hvp.kp0 hw7)).mono ?_⟩⟩,?_⟩
  ·rintro e w8 ⟨hk8,n3,v3,a16,m16,c16,rfl,hL,hR8⟩
   rw[<-hx]at hL
   have hw8:=hw7.trans hk8
   refine⟨_,_,_,_,rfl,hk8,fun vs w'=>∃v s,vs=[s]/\KpL [] w6 w'/\R (au cv) (aj a13++K) w' v [s]/\uB x l ps[i2] v,⟨fun hneg=>?_,fun hpos=>⟨v3,_,rfl,hw8,hR8,n3,v3,hL,.inl ⟨by omega,rfl⟩⟩⟩,?_⟩
   ·obtain⟨d5,q5,_,_,_,_,_,_,b3,p3,q3,o1,_,_,_,_,o2,_,_,x3⟩:=(hS.f.kp0 hw8).nm gi
    rw[<-hx]at x3
    obtain⟨rfl,_,_⟩:=x3.sl_len
    obtain⟨ad',_,e',b21,p21,rfl,hld',hvp'⟩:=rdp hw8
    refine⟨_,_,_,o1,d5,rfl,by omega,by omega,b3,_,q3,o2,_,_,_,o1,d5,rfl,by omega,by omega,b3,_,q3,o2,ad',e',by omega,hlt,b21,_,p21,hld',fun w9 hw9=>?_⟩
    have hin:ps[i2]∈x.arr.cells.map (·.at_):=by
     refine((hsp _).1 hpm).resolve_right ?_
     rintro⟨b,hb,h1,h2⟩
     obtain⟨c,hc,h3⟩:=List.mem_map.1 h2
     rcases hL with ⟨_,hL⟩|⟨j,_,hj,_⟩
     ·rw[List.take_length]at hL
      exact hL b hb _ ⟨h1,c,hc,h3,rfl⟩
     ·omega
    refine⟨(ua (x3.kp0 hw9) (hvp'.kp0 hw9) (hO.cs x hxm) hin).mono ?_⟩
    rintro e w10 ⟨hk10,i4,hi4,rfl,hat⟩
    obtain⟨ad4,cs4,e4,hv4,_,_,_,hpt4⟩:=((x3.kp0 hw9).kp0 hk10).sl_get2 hi4
    obtain⟨b5,p5,q5,b6,p6,q6,rfl,_,y2⟩:=hv4.cell
    exact⟨_,rfl,hk10,ad4,e4,by omega,by omega,b6,p6,q6,hpt4 1 [_] rfl,x.arr.cells[i4].vals,_,rfl,(hw8.trans hw9).trans hk10,y2.weak (fun b hb=>by simp[hb]),n3,v3,hL,.inr ⟨hneg,by rw[<-hat];exact List.getElem_mem hi4⟩⟩
   ·rintro a23 k46 k47 w11 ⟨v,s,hv,hk11,hRv,hcur⟩
    simp only[List.cons.injEq,and_true]at hv
    subst hv
    obtain⟨rfl,_,_⟩:=hRv.sl_len
    have hvl:=hO.cur hxm hcur
    have bstep:∀(p:List Int),p∈ps.take (i2+1)->p∈ps.take i2∨p=ps[i2]:=fun p hp=>by
     rw[<-List.take_append_getElem g2,List.mem_append,List.mem_singleton]at hp
     exact hp
    refine⟨fun hpos=>?_,fun hzero _=>?_⟩
    ·obtain⟨ad',_,e',b24,p24,rfl,hld',hvp'⟩:=rdp hk11
     refine⟨ad',e',by omega,hlt,b24,_,p24,hld',fun w12 hw12=>?_⟩
     have hS12:=hS.kp0 (hk11.trans hw12)
     have hKb:∀b∈aj a13++K,b<w12.heap.size:=fun b hb=>(List.mem_append.1 hb).elim (fun h=>(hS12.c.blk_lt b h).1) (hS12.c.mlt b)
     refine⟨(hZ (c:=⟨ps[i2],v⟩) hKb (hvp'.kp0 hw12) (hRv.kp0 hw12) (by dsimp only;omega) (by dsimp only;omega)).mono ?_⟩
     rintro e w13 ⟨a25,n25,q25,a26,n26,q26,rfl,hk13,hRc⟩
     refine⟨_,_,_,_,_,_,rfl,hk13,fun k54 g54 w14 hw14 l54 hkn=>?_⟩
     have hS14:=hS12.kp0 (hk13.trans hw14)
     have hk1214:=hk13.trans hw14
     refine aD Bo hS14.c hkn (hRc.kp0 hw14) (by omega) fun a' c' w15 hD=>⟨_,_,_,rfl,_,hD.kp,⟨⟨fun hm=>?_⟩,⟨fun hm=>?_⟩⟩,fun w16 hw16 _=>⟨cells++[⟨ps[i2],v⟩],a',_,c',rfl,?_⟩⟩
     ·have:=(hS12.c.blk_lt _ hm).1;have:=hk13.size;omega
     ·exact(hS14.c.out (k:=k19) (by rw[hK];simp)).no hm
     ·have h16:∀{β:Type} {t:Ty β} {y:β} {cs:List Value},R t (aj a13++K) w14 y cs->R t (aj a'++K) w16 y cs:=fun hr=>(hD.data hr).kp hw16 (by rw[hK];simp)
      have hown:∀b∈aj a',w1.heap.size<=b:=fun b hb=>(hD.own b hb).elim (hS14.o b) fun hge=>by have:=hS14.k.size;omega
      refine⟨((hS14.k.more hD.kp fun b hb=>.inr (hS14.o b hb)).more hw16 (by simpa using g19)),h16 hS14.d,h16 hS14.t,h16 hS14.p,?_,hD.acc.kp hw16 (by rw[hK];simp),hown,?_,fun c hc=>?_,fun p hp v' hcur' hne=>?_⟩
      ·exact(hS14.f.data hD).kp hw16 (by rw[hK];simp)
      ·rw[<-List.take_append_getElem g2,List.map_append]
       exact hS.s.append (List.Sublist.refl _)
      ·rcases List.mem_append.1 hc with hc|hc
       ·exact hS.f1 c hc
       ·simp at hc
        subst hc
        exact⟨fun hz=>by have hz:v=[]:=hz;rw[hz]at hpos;simp at hpos,hcur⟩
      ·rcases bstep p hp with hp|rfl
       ·exact List.mem_append_left _ (hS.b1 p hp v' hcur' hne)
       ·rw[hcur'.uniq hO hxm hcur]
        exact List.mem_append_right _ (List.mem_singleton.2 rfl)
    ·refine⟨cells,a13,k26,k27,rfl,?_⟩
     have hS11:=hS.kp0 hk11
     refine⟨hS11.k,hS11.d,hS11.t,hS11.p,hS11.f,hS11.c,hS11.o,hS.s.trans (by rw[<-List.take_append_getElem g2];exact List.sublist_append_left _ _),hS.f1,fun p hp v' hcur' hne=>?_⟩
     rcases bstep p hp with hp|rfl
     ·exact hS.b1 p hp v' hcur' hne
     ·have:=hcur'.uniq hO hxm hcur
      subst this
      exact absurd (List.eq_nil_of_length_eq_zero (by omega)) hne
  ·rintro _ _ _ _ _ _ a30 k61 k62 w17 _ ⟨cells',_,_,_,hv,hS'⟩
   simp only[List.cons.injEq,Value.slice.injEq,true_and,and_true]at hv
   obtain⟨⟨rfl,rfl,rfl⟩,⟨rfl,rfl,rfl⟩,rfl,rfl,rfl⟩:=hv
   exact⟨ae.2 (by omega),fun _=>⟨⟨i2+1,cells',_,_,_,rfl,by omega,hS'⟩,by dsimp only;omega⟩⟩
 ·intro hge
  obtain⟨d,q,_,_,_,_,_,_,_,_,_,m1,m2,_⟩:=hS.f.nm gi
  have hsz:=hS.f.nsz gi
  have hlo:=hC.acc.len
  refine⟨_,_,_,m1,d,rfl,by omega,by omega,_,m2,fun k65 g65 w18 hw18 l65 hkn=>?_⟩
  have hS18:=hS.kp0 hw18
  have hC18:=hC.kp0 hS18.k
  have wk:∀b∈aj a1++M,b∈K:=fun b hb=>by rw[hK];simp only[List.mem_cons];exact .inr hb
  have wk2:∀b∈aj a1++M,b∈aj a13++K:=fun b hb=>List.mem_append_right _ (wk b hb)
  refine aD (x:=⟨first[i].name,⟨x.arr.dims,x.arr.attrs,cells⟩⟩) Bc hC18.acc hkn (R.mkNm (c:=⟨first[i].name,⟨x.arr.dims,x.arr.attrs,cells⟩⟩) hsz (hS18.d.weak wk2) (hS18.t.weak wk2) ((hS18.c.done (by omega)).weak wk)) (by have:=hO.f;omega) fun a' c' w19 hD=>⟨_,_,_,rfl,_,hD.kp,⟨⟨fun hm=>?_⟩,⟨fun hm=>?_⟩⟩,ae.2 (by have:=hO.f;omega),⟨i+1,_,a',_,c',rfl,by omega,by simp[hl],fun j x' y hx' hy=>?_,hC18.trans hD⟩,by unfold Ff;dsimp only;omega⟩
  ·have:=(hC.acc.blk_lt _ hm).1;have:=hS.k.size;omega
  ·have:=(hC.acc.blk_lt _ hm).1;omega
  ·by_cases hj:j<out.length
   ·rw[List.getElem?_append_left hj]at hy
    exact hout j x' y hx' hy
   ·have hj2:j=i:=by
     have:=(List.getElem?_eq_some_iff.1 hy).1
     simp at this
     omega
    subst hj2
    rw[List.getElem?_append_right (by omega),show j - out.length=0 from by omega]at hy
    rw[List.getElem?_eq_getElem gi,Option.some.injEq,<-hx]at hx'
    subst hx'
    simp only[List.getElem?_cons_zero,Option.some.injEq]at hy
    subst hy
    refine⟨by rw[hx],rfl,rfl,?_,hS.f1,fun p v hc hne=>hS.b1 p ?_ v hc hne⟩
    ·have hs:=hS.s
     rw[List.take_of_length_le (by omega)]at hs
     exact List.pairwise_map.1 (hps.sublist hs)
    ·rw[List.take_of_length_le (by omega),hsp]
     exact hc.spot
theorem DN{M:List Nat}{w:World}{r:Nat}{n u:Int}{first:List Nm}{l:List Bt}(h:aT M w r n first l u)(hO:kN first l)(hM:∀b∈M,b<w.heap.size):
 Calls Zz 88 #[pK r] w fun e w'=>KpL [] w w'/\∃out a m c,e=.returned (.slice a m c)/\out.length=first.length/\(∀(j:Nat) x y,first[j]?=some x->out[j]?=some y->CN x l y)/\R (au gG) M w' out [.slice a m c]:=by
 have hmx:az=140737488355328:=rfl
 refine DO ⟨FL M w first l,Ff first,⟨0,[],none,0,0,rfl,by omega,rfl,by simp,bI.nil' _ hM,KpL.refl _ _,by simp[aj]⟩,?_⟩
 rintro a1 k1 k2 n1 w1 ⟨i,out,_,_,_,hv,hi,hl,hout,hC⟩
 simp only[List.cons.injEq,Value.int.injEq,Value.slice.injEq,true_and,and_true]at hv
 obtain⟨⟨rfl,rfl,rfl⟩,rfl⟩:=hv
 obtain⟨a2,q2,l2,_⟩:=(h.kp0 hC.kpn).ldF
 refine⟨_,_,_,l2,fun hlt=>?_,fun hge=>?_⟩
 ·have gi:i<first.length:=by omega
  obtain⟨sd,sa⟩:=hO.sh _ (List.getElem_mem gi)
  obtain⟨d,q,b1,p1,q1,b2,p2,q2,b3,p3,q3,m1,_,_,m2,m3,_,x1,x2,x3⟩:=(h.kp0 hC.kpn).nm gi
  have hB:∀b∈aj a1++M,b<w1.heap.size:=fun b hb=>(List.mem_append.1 hb).elim (fun h=>(hC.acc.blk_lt b h).1) (hC.acc.mlt b)
  refine⟨_,_,_,m1,d,rfl,by omega,hlt,_,_,_,m2,_,_,_,m1,d,rfl,by omega,hlt,_,_,_,m3,fun w2 hw2=>⟨(lA (M:=aj a1++M) (fun b hb=>Nat.lt_of_lt_of_le (hB b hb) hw2.size) (x1.kp0 hw2) (x2.kp0 hw2) (by omega) (by omega)).mono ?_⟩,fun k68 g68 w20 hw20 l68=>⟨(lA (M:=k68::(aj a1++M)) (zl hB hw20 l68) (x1.kp0 hw20) (x2.kp0 hw20) (by omega) (by omega)).mono ?_⟩⟩
  ·rintro e w3 ⟨a7,n7,c7,a8,n8,c8,rfl,hk3,r1,r2⟩
   refine⟨_,_,_,_,_,_,_,_,_,rfl,hk3,fun k19 g19 w4 hw4 l19=>tm h hO gi hC hl hout ((hw2.trans hk3).trans hw4) (Nat.le_trans (hw2.trans hk3).size g19) l19 (r1.cons hw4 g19) (r2.cons hw4 g19)⟩
  ·rintro e w21 ⟨a7,n7,c7,a8,n8,c8,rfl,hk3,r1,r2⟩
   refine⟨_,_,_,_,_,_,_,_,_,rfl,hk3,fun w22 hw22=>tm h hO gi hC hl hout ((hw20.trans hk3).more hw22 (by simpa using g68)) g68 (by have:=hk3.size;have:=hw22.size;omega) (r1.kp hw22 (by simp)) (r2.kp hw22 (by simp))⟩
 ·have hlA:=hC.acc.len
  have:=hO.f
  exact⟨hC.kpn,out,_,_,_,rfl,by omega,hout,hC.acc.done (by omega)⟩
end Go.Vc
namespace Go.Vc
open Go Go.Proofs
def wJ(x:Nm)(l:List Bt)(ps:List (List Int)):Prop:=ps.Pairwise (fun x y=>aY x y<0)/\ps.length<=100000/\∀p,p∈ps↔kD x l p
def f9(pss:List (List (List Int))):Nat:=(pss.map List.length).sum
theorem wz:∀{pss:List (List (List Int))},(∀ps∈pss,ps.length<=100000)->f9 pss<=100000*pss.length
 |[],_=>by simp[f9]
 |p::r,h=>by
  have h1:=wz (pss:=r) fun ps hp=>h ps (by simp[hp])
  have h2:=h p (by simp)
  have e:f9 (p::r)=p.length+f9 r:=by simp[f9]
  rw[e,List.length_cons]
  omega
theorem sk{M:List Nat}{w:World}{r:Nat}{n u:Int}{first:List Nm}{l:List Bt}(h:aT M w r n first l u)(hO:kN first l)(hM:∀b∈M,b<w.heap.size):
 Calls Zz 85 #[pK r] w fun e w'=>e=.returned (.tuple #[])/\KpL [r] w w'/\∃pss,pss.length=first.length/\(∀(j:Nat) x ps,first[j]?=some x->pss[j]?=some ps->wJ x l ps)/\aT M w' r n first l (1+8*first.length+l.length+3*f9 pss):=by
 obtain⟨a1,q1,l1,_⟩:=h.ldF
 obtain⟨a2,q2,l2,_⟩:=h.ldL
 have hf:=hO.f
 have hln:=hO.ln
 refine rM ⟨_,_,_,l1,ae.2 (by omega),ae.2 (by omega),_,_,_,l2,ae.2 (by omega),fun w1 hw1=>?_⟩
 obtain⟨s1,s2,h2,s5⟩:=(h.kp0 hw1).setU (u':=1+8*(first.length:Int)+l.length)
 refine⟨s1,s2,fun w2 hw2=>?_⟩
 rw[<-hw2]at h2 s5
 clear hw2
 refine⟨fun vs w'=>∃(i:Nat) (pss:List (List (List Int))),vs=[iv (i:Int)]/\i<=first.length/\KpL [r] w w'/\pss.length=i/\(∀(j:Nat) x ps,first[j]?=some x->pss[j]?=some ps->wJ x l ps)/\aT M w' r n first l (1+8*first.length+l.length+3*f9 pss),
  fun vs _=>match vs with|[.int _ i]=>first.length - i.toNat|_=>0,⟨0,[],rfl,by omega,(hw1.mono (by simp)).trans s5,rfl,by simp,by simpa[f9]using h2⟩,?_⟩
 rintro n1 w3 ⟨i,pss,hv,hi,hk3,hpl,hps,h3⟩
 obtain rfl:=v1 hv
 obtain⟨a3,q3,l3,_⟩:=h3.ldF
 refine⟨_,_,_,l3,fun hlt=>?_,fun hge=>?_⟩
 ·have gi:i<first.length:=by omega
  have hsum:f9 pss<=100000*i:=by
   rw[<-hpl]
   refine wz fun ps hp=>?_
   obtain⟨j,hj,rfl⟩:=List.getElem_of_mem hp
   exact(hps j _ _ (List.getElem?_eq_getElem (by omega)) (List.getElem?_eq_getElem hj)).2.1
  refine⟨_,h3.ldU.1,fun w4 hw4=>⟨(ol (h3.kp0 hw4) (fun b hb=>by have:=hM b hb;have:=hk3.size;have:=hw4.size;omega) gi (by have:=hO.cn _ (List.getElem_mem gi);omega) (by omega) hO.bn).mono ?_⟩⟩
  rintro e w5 ⟨a4,m4,c4,ps,rfl,hk5,rp,g1,g2,g3⟩
  obtain⟨rfl,_,_⟩:=rp.sl_len
  obtain⟨t1,t2,h6,t5⟩:=((h3.kp0 hw4).kp0 hk5).setU (u':=1+8*first.length+l.length+3*f9 pss+3*(ps.length:Int))
  refine⟨_,_,_,rfl,hk5,ae.2 (by omega),ae.2 (by omega),t1,t2,fun w6 hw6=>?_⟩
  rw[<-hw6]at h6 t5
  refine⟨ae.2 (by omega),⟨i+1,pss++[ps],rfl,by omega,(hk3.trans ((hw4.trans hk5).mono (by simp))).trans t5,by simp[hpl],fun j x q hx hq=>?_,?_⟩,by dsimp only;omega⟩
  ·by_cases hj:j<pss.length
   ·rw[List.getElem?_append_left hj]at hq
    exact hps j x q hx hq
   ·have hj2:j=i:=by
     have:=(List.getElem?_eq_some_iff.1 hq).1
     simp at this
     omega
    subst hj2
    rw[List.getElem?_append_right (by omega),show j - pss.length=0 from by omega]at hq
    rw[List.getElem?_eq_getElem gi,Option.some.injEq]at hx
    subst hx
    simp only[List.getElem?_cons_zero,Option.some.injEq]at hq
    subst hq
    exact⟨g1,g2,g3⟩
  ·have e:f9 (pss++[ps])=f9 pss+ps.length:=by simp[f9]
   rw[e,show(1+8*(first.length:Int)+l.length+3*((f9 pss+ps.length:Nat):Int))=1+8*first.length+l.length+3*f9 pss+3*(ps.length:Int) from by omega]
   exact h6
 ·obtain rfl:i=first.length:=by omega
  exact⟨rfl,hk3,pss,hpl,hps,h3⟩
def EQ(M:List Nat)(w:World)(n:Int)(db:List Nm)(e:Ending)(w':World):Prop :=
 KpL [] w w'/\if mn db≠0∨db.length=0 then e=.returned (.tuple #[.pointer none,iv 2]) else if (n - 2) / 2<(aU db).use then e=.returned (.tuple #[.pointer none,iv 18])
  else ∃r,e=.returned (.tuple #[pK r,iv 0])/\w.heap.size<=r/\aT M w' r n db [] (aU db).use
theorem nK{M Mdb:List Nat}{w:World}{n:Int}{db:List Nm}{dba:Option Addr}{dbn dbc:Nat}(hM:∀b∈M,b<w.heap.size)(hd:R (au gG) Mdb w db [.slice dba dbn dbc])(hn:2<=n/\n<=100000):
 Calls Zz 21 #[iv n,.slice dba dbn dbc] w (EQ M w n db):=by
 have hmx:az=140737488355328:=rfl
 obtain⟨rfl,_,_⟩:=hd.sl_len
 refine uD ⟨(qi hd).mono ?_⟩
 rintro e w1 ⟨rfl,hk1⟩
 refine⟨_,rfl,hk1,fun hz=>?_,fun hne=>⟨hk1,by rw[if_pos (.inl hne)]⟩⟩
 refine⟨fun h0=>⟨hk1,by rw[if_pos (.inr (by omega))]⟩,fun h0 k1 g1=>?_⟩
 obtain⟨q1,q2,q3⟩:=lJ (Classical.not_not.1 hz)
 have hus:∀(x:Nm) (i:Nat),(aO i [x]).length=x.arr.cells.length:=fun x i=>by simp[aO,ff]
 have hdk:∀{w':World},KpL [] w1 w'->R (au gG) (k1::Mdb) w' db [.slice dba db.length dbc]:=fun hk=>(hd.kp0 hk1).cons hk g1
 refine⟨fun vs w'=>∃(i:Nat) (a:Option Addr) (m c:Nat),vs=[iv (i:Int),iv n,.slice a m c,.slice none 0 0,iv (1+8*i+3*(aO 0 (db.take i)).length)]/\i<=db.length/\KpL [] w1 w'/\bI gG (k1::M) w' (db.take i) a m c/\(∀b∈aj a,w1.heap.size<=b)/\(aO 0 (db.take i)).length<=4096*i/\R (au gG) (k1::Mdb) w' db [.slice dba db.length dbc],
  fun vs _=>match vs with|.int _ i::_=>db.length - i.toNat|_=>0,fun w2 hw2 l1 _=>⟨0,none,0,0,by simp[aO],by omega,hw2,bI.nil' _ (zl (fun b hb=>Nat.lt_of_lt_of_le (hM b hb) hk1.size) hw2 l1),by simp[aj],by simp[aO],hdk hw2⟩,?_⟩
 rintro n2 n3 a1 k2 k3 a2 k4 k5 n4 w3 l3 hb3 ⟨i,_,_,_,hv,hi,hk3,hA,hown,hbd,hdb⟩
 simp only[List.cons.injEq,Value.int.injEq,Value.slice.injEq,true_and,and_true]at hv
 obtain⟨rfl,rfl,⟨rfl,rfl,rfl⟩,⟨rfl,rfl,rfl⟩,rfl⟩:=hv
 have hlA:=hA.len
 rw[List.length_take,Nat.min_eq_left hi]at hlA
 constructor
 ·intro hlt
  have gi:i<db.length:=by omega
  have hdx:=q2 _ (List.getElem_mem gi)
  obtain⟨hs,hc4,hce,_⟩:=dQ hdx.2
  have hsl:=fH hs
  have hcl:∀c∈db[i].arr.cells,c.at_.length<=1000/\c.vals.length<=1000:=fun c hc=>by have:=lG (hce c hc);omega
  have rd:∀{w':World} (_:R (au gG) (k1::Mdb) w' db [.slice dba db.length dbc]),∃ad b1 p1 q1 b2 p2 q2 b3 q3,dba=some ad/\ao w' ((ad.add (i*4)).add 0) [.string db[i].name]/\ao w' ((ad.add (i*4)).add 1) [.slice b1 p1 q1,.slice b2 p2 q2,.slice b3 db[i].arr.cells.length q3]/\ao w' (((ad.add (i*4)).add 1).add 2) [.slice b3 db[i].arr.cells.length q3]/\
   db[i].name.size<=9223372036854775807/\R (au bY) (k1::Mdb) w' db[i].arr.dims [.slice b1 p1 q1]/\R (au bw) (k1::Mdb) w' db[i].arr.attrs [.slice b2 p2 q2]/\R (au aC) (k1::Mdb) w' db[i].arr.cells [.slice b3 db[i].arr.cells.length q3]:=by
   intro w' hr
   obtain⟨ad,cs,rfl,hv1,_,_,_,hpt⟩:=hr.sl_get2 gi
   obtain⟨b1,p1,q1,b2,p2,q2,b3,p3,q3,rfl,hsz,x1,x2,x3⟩:=hv1.nm
   obtain⟨rfl,_,_⟩:=x3.sl_len
   refine⟨ad,b1,p1,q1,b2,p2,q2,b3,q3,rfl,hpt 0 [_] rfl,hpt 1 [_,_,_] rfl,?_,hsz,x1,x2,x3⟩
   rw[kC]
   exact hpt 3 [_] rfl
  obtain⟨ad,b1,p1,q1,b2,p2,q2,b3,q3,rfl,m1,m2,m3,hsz,x1,x2,x3⟩:=rd hdb
  refine⟨ad,rfl,by omega,hlt,_,m1,ad,rfl,by omega,hlt,_,_,_,_,_,_,_,_,_,m2,fun w4 hw4=>?_⟩
  have hA4:=hA.kp0 hw4
  have hK:∀b∈aj a1++(k1::M),b<w4.heap.size:=fun b hb=>(List.mem_append.1 hb).elim (fun h=>(hA4.blk_lt b h).1) (hA4.mlt b)
  refine⟨(BA hK (x1.kp0 hw4) (x2.kp0 hw4) (x3.kp0 hw4) (by omega) (by omega) (by omega) hcl).mono ?_⟩
  rintro e w5 ⟨a6,n6,c6,a7,n7,c7,a8,n8,c8,rfl,hk5,y1,y2,y3⟩
  refine⟨_,_,_,_,_,_,_,_,_,rfl,hk5,fun k18 g18 w6 hw6 l18 hkn=>?_⟩
  have hk36:=(hw4.trans hk5).trans hw6
  have hA6:=hA.kp0 hk36
  have s5:=(hw4.trans hk5).size
  refine aD Bc hA6 hkn (R.mkNm hsz (y1.kp0 hw6) (y2.kp0 hw6) (y3.kp0 hw6)) (by omega) fun a' c' w7 hD=>⟨_,_,_,rfl,_,hD.kp,⟨⟨fun hm=>?_⟩,hA6.out (by simp)⟩,ae.2 (by omega),ad,rfl,by omega,hlt,fun w8 hw8=>?_⟩
  ·have:=(hA.blk_lt _ hm).1;omega
  have hk7:KpL [] w1 w7:=(hk3.trans hk36).more hD.kp fun x hx=>.inr (hown x hx)
  have hk8:KpL [] w1 w8:=hk7.more hw8 (by simpa using g1)
  obtain⟨ad',_,_,_,_,_,_,b3,q3,e',_,_,m3,_⟩:=rd (w':=w8) ((hdk hk7).kp hw8 (by simp))
  simp only[Option.some.injEq]at e'
  subst e'
  have hfl:(aO 0 (db.take (i+1))).length=(aO 0 (db.take i)).length+db[i].arr.cells.length:=by
   rw[<-List.take_append_getElem gi,jd,List.length_append,hus]
  refine⟨b3,_,q3,m3,ae.2 (by omega),ae.2 (by omega),ae.2 (by omega),fun w9 hw9 _=>⟨⟨i+1,a',k2+1,c',?_,by omega,hk8.more hw9 (by simpa using g1),?_,fun b hb=>?_,by omega,(((hdk hk7).kp hw8 (by simp))).kp hw9 (by simp)⟩,by dsimp only;omega⟩⟩
  ·rw[hfl]
   simp only[List.cons.injEq,Value.int.injEq,true_and,and_true]
   omega
  ·rw[<-List.take_append_getElem gi]
   exact(hD.acc.kp hw8 (by simp)).kp hw9 (by simp)
  ·exact(hD.own b hb).elim (hown b) fun hge=>by have:=(hk3.trans hk36).size;omega
 ·intro hge w10 hw10
  obtain rfl:i=db.length:=by omega
  rw[List.take_length]at hA hbd hb3 ⊢
  have hu:(aU db).use=1+8*(db.length:Int)+3*(aO 0 db).length:=by simp[aU,bG]
  refine⟨(jV hn w10).mono ?_⟩
  rintro e w11 ⟨rfl,hk11⟩
  have hw11:=hw10.trans hk11
  refine⟨_,rfl,hk11,fun hfull=>⟨(hk1.trans hk3).trans hw11,by rw[if_neg (by omega),if_pos (by rw[hu];exact hfull)]⟩,fun hfit=>⟨(hk1.trans hk3).trans hw11,?_⟩⟩
  rw[if_neg (by omega),if_neg (by rw[hu];exact hfit)]
  have hA11:=hA.kp0 hw11
  have hk1M:k1∉M:=fun hm=>by have:=hM k1 hm;have:=hk1.size;omega
  refine⟨k1,rfl,Nat.le_trans hk1.size g1,_,_,_,none,0,0,?_,hk1M,hA11.done (by omega),R.sl_nil _ _ _ _ _⟩
  rw[hu]
  exact(hw11.blk _ l3 (by simp)).trans hb3
end Go.Vc
namespace Go.Vc
open Go Go.Proofs
theorem qI(db:List Nm)(b:Bt):rm (db.map aB) b=rm db b:=by
 have hi:∀(l:List Nm) (i:Int),idxOf (fun x:Nm=>decide (x.name=b.array)) (l.map aB) i=idxOf (fun x:Nm=>decide (x.name=b.array)) l i:=by
  intro l
  induction l with
  |nil=>intro i;rfl
  |cons x r ih=>intro i;rw[List.map_cons,idxOf,idxOf,ih];rfl
 have hf:aI (db.map aB) b.array=aI db b.array:=hi db 0
 unfold rm bg.checkE
 dsimp only
 rw[hf,List.getElem?_map]
 cases db[(aI db b.array).toNat]?<;>rfl
theorem xL(st:bg)(b:Bt):st.checkE b=rm st.arrays b:=rfl
structure eD (db:List Nm) (l:List Bt) (st:bg):Prop where
 aft:Du (db.map aB) (aO 0 db) l st
 chk:∀b∈l,rm db b=0
 ok:kN db l
theorem D8{α β:Type}{f:α->β}{l:List α}(h:(l.map f).Nodup){i j:Nat}{x y:α}(hx:l[i]?=some x)(hy:l[j]?=some y)(he:f x=f y):i=j:=by
 obtain⟨hi,rfl⟩:=List.getElem?_eq_some_iff.1 hx
 obtain⟨hj,rfl⟩:=List.getElem?_eq_some_iff.1 hy
 rw[List.nodup_iff_pairwise_ne,List.pairwise_map,List.pairwise_iff_getElem]at h
 rcases Nat.lt_trichotomy i j with hl|hl|hl
 ·exact absurd he (h i j hi hj hl)
 ·exact hl
 ·exact absurd he.symm (h j i hj hi hl)
theorem BP{db:List Nm}(hnd:(db.map (·.name)).Nodup){j:Nat}{x:Nm}(hx:db[j]?=some x){nm:ByteArray}:aI (db.map aB) nm=j↔nm=x.name:=by
 have hj:=(List.getElem?_eq_some_iff.1 hx).1
 have e:∀(i:Nat) (y:Nm),(db.map aB)[i]?=some y->∃z,db[i]?=some z/\y.name=z.name:=fun i y h=>by
  rw[List.getElem?_map]at h
  obtain⟨z,hz,rfl⟩:=Option.map_eq_some_iff.1 h
  exact⟨z,hz,rfl⟩
 have key:0<=aI (db.map aB) nm->∃z,db[(aI (db.map aB) nm).toNat]?=some z/\z.name=nm:=fun h=>by
  obtain⟨y,h1,h2⟩:=th h
  obtain⟨z,h3,h4⟩:=e _ _ h1
  exact⟨z,h3,h4.symm.trans h2⟩
 constructor
 ·intro h
  obtain⟨z,h1,h2⟩:=key (by omega)
  rw[h,Int.toNat_natCast,hx,Option.some.injEq]at h1
  rw[h1,h2]
 ·rintro rfl
  have h0:0<=aI (db.map aB) x.name:=by
   have:=ji (fun y:Nm=>decide (y.name=x.name)) (db.map aB) 0 (by omega)
   have h2:(db.map aB).any (fun y=>decide (y.name=x.name))=true:=List.any_eq_true.2 ⟨aB x,List.mem_map.2 ⟨x,List.mem_of_getElem? hx,rfl⟩,by simp[aB]⟩
   rw[h2]at this
   exact of_decide_eq_true this
  obtain⟨z,h1,h2⟩:=key h0
  have hz:=(List.getElem?_eq_some_iff.1 h1).1
  have:=D8 hnd h1 hx h2
  omega
theorem Dx{db:List Nm}{b:Bt}(h:rm db b=0){j:Nat}{x:Nm}(hnd:(db.map (·.name)).Nodup)(hx:db[j]?=some x)(hb:b.array=x.name):∀c∈b.changes,c.at_.length=x.arr.dims.length:=by
 intro c hc
 rw[<-qI]at h
 have hok:=et (st:=⟨0,db.map aB,[],[],0⟩) h
 obtain⟨y,hy,hck⟩:=hok.arr
 have hf:=(BP hnd hx).2 hb
 have hy':(db.map aB)[(aI (db.map aB) b.array).toNat]?=some y:=hy
 rw[hf,Int.toNat_natCast,List.getElem?_map,hx,Option.map_some,Option.some.injEq]at hy'
 have:=hck c hc
 subst hy'
 unfold bF at this
 split at this
 ·cases this
 ·have e:(aB x).arr.dims.length=x.arr.dims.length:=rfl
  omega
theorem lq{db:List Nm}{b:Bt}(h:rm db b=0){j:Nat}{x:Nm}(hnd:(db.map (·.name)).Nodup)(hx:db[j]?=some x)(h4:x.arr.dims.length<=4){p:List Int}(hp:p.length=x.arr.dims.length){v:List Vl}:jD (db.map aB) b (be j p) v↔Ca x.name b p v:=by
 constructor
 ·rintro⟨c,hc,h1,h2⟩
  have ha:aI (db.map aB) b.array=j:=by have:=congrArg Pl.a h1;simpa[be]using this
  have hb:=(BP hnd hx).1 ha
  have hl:=Dx h hnd hx hb c hc
  rw[ha]at h1
  exact⟨hb,c,hc,gK h1 (by omega) (by omega),h2⟩
 ·rintro⟨hb,c,hc,h1,h2⟩
  exact⟨c,hc,by rw[(BP hnd hx).2 hb,h1],h2⟩
theorem eD.at_{db:List Nm}{l:List Bt}{st:bg}(h:eD db l st)(hdb:mn db=0){j:Nat}{x:Nm}(hx:db[j]?=some x){p:List Int}(hp:p.length=x.arr.dims.length):
 (∀s,bQ st.places (be j p)=some s->uB x l p s.vals)/\(bQ st.places (be j p)=none->¬kD x l p):=by
 obtain⟨_,g2,hnd⟩:=lJ hdb
 have hxm:=List.mem_of_getElem? hx
 obtain⟨hs,_,hce,_⟩:=dQ (g2 x hxm).2
 have h4:=(fH hs).2.1
 have hA:=h.aft.at_ (be j p)
 have no:(∀b∈l,¬∃v,jD (db.map aB) b (be j p) v)->∀b∈l,∀v,¬Ca x.name b p v:=fun hn b hb v ht=>hn b hb ⟨v,(lq (h.chk b hb) hnd hx h4 hp).2 ht⟩
 generalize hg:bQ st.places (be j p)=o at *
 cases hA with
 |none h0 hn =>
  refine⟨fun s hs=>(by cases hs),fun _ hsp=>?_⟩
  rcases hsp with hsp|⟨b,hb,h1,h2⟩
  ·obtain⟨c,hc,rfl⟩:=List.mem_map.1 hsp
   have hm:(be j c.at_,(⟨0,c.vals⟩:dE))∈aO 0 db:=by
    have e:db=db.take j++x::db.drop (j+1):=by
     have hj:=(List.getElem?_eq_some_iff.1 hx)
     rw[<-hj.2,<-List.drop_eq_getElem_cons hj.1,List.take_append_drop]
    have hj:=(List.getElem?_eq_some_iff.1 hx).1
    rw[e,jd,aO]
    refine List.mem_append_right _ (List.mem_append_left _ (List.mem_map.2 ⟨c,hc,?_⟩))
    rw[List.length_take,Nat.min_eq_left (by omega),Nat.zero_add]
   rw[fw (kr fun y hy=>(g2 y hy).2) hm]at h0
   cases h0
  ·obtain⟨c,hc,h3⟩:=List.mem_map.1 h2
   exact no hn b hb c.vals ⟨h1,c,hc,h3,rfl⟩
 |old s y hb0 h0 hv hn =>
  refine⟨fun s' hs'=>?_,fun hc=>(by cases hc)⟩
  simp only[Option.some.injEq]at hs'
  subst hs'
  obtain⟨j',x',c,hj',hc,he⟩:=lf (jC h0)
  simp only[Prod.mk.injEq]at he
  have ha:(j:Int)=((0+j':Nat):Int):=congrArg Pl.a he.1
  have hjj:j'=j:=by omega
  subst hjj
  rw[hx,Option.some.injEq]at hj'
  subst hj'
  have hl:=(gI (hce c hc)).1
  have hpc:p=c.at_:=by
   refine gK (a:=(j':Int)) ?_ (by omega) (by omega)
   rw[he.1]
   congr 1
   omega
  refine⟨-1,[],.inl ⟨rfl,by rw[List.take_length];exact no hn⟩,.inr ⟨by omega,?_⟩⟩
  rw[<-hv,he.2,hpc]
  exact hc
 |new s i b hb hj ht hn =>
  refine⟨fun s' hs'=>?_,fun hc=>(by cases hc)⟩
  simp only[Option.some.injEq]at hs'
  subst hs'
  have hbl:=List.mem_of_getElem? hj
  refine⟨i,s.vals,.inr ⟨i,b,rfl,(List.getElem?_eq_some_iff.1 hj).1,hj,(lq (h.chk b hbl) hnd hx h4 hp).1 ht,fun b' hb' ⟨v',hv'⟩=>?_⟩,.inl ⟨by omega,rfl⟩⟩
  rw[List.take_length]at hb'
  exact hn b' hb' ⟨v',(lq (h.chk b' hb') hnd hx h4 hp).2 hv'⟩
end Go.Vc
namespace Go.Vc
open Go Go.Proofs
theorem yR(a:List (List (List Int)))(p:List (List Int)):f9 (a++[p])=f9 a+p.length:=by simp[f9]
section
variable {db:List Nm} {l:List Bt} {st:bg} (h:eD db l st) (hdb:mn db=0)
include h hdb
theorem eD.spl{j:Nat}{x:Nm}(hx:db[j]?=some x){p:List Int}(hs:kD x l p):p.length=x.arr.dims.length:=by
 obtain⟨_,g2,hnd⟩:=lJ hdb
 rcases hs with hs|⟨b,hb,h1,h2⟩
 ·obtain⟨c,hc,rfl⟩:=List.mem_map.1 hs
  exact(gI ((dQ (g2 x (List.mem_of_getElem? hx)).2).2.2.1 c hc)).1
 ·obtain⟨c,hc,rfl⟩:=List.mem_map.1 h2
  exact Dx (h.chk b hb) hnd hx h1 c hc
theorem eD.key(v:dy st){j:Nat}{x:Nm}(hx:db[j]?=some x):cY st.arrays j=x.arr.dims.length/\(∀q∈st.places,q.1.a=j->∃p,p=q.1.co.take x.arr.dims.length/\be j p=q.1/\p.length=x.arr.dims.length/\uB x l p q.2.vals)/\
 ∀p,kD x l p->∃s,(be j p,s)∈st.places/\uB x l p s.vals/\(be j p).co.take x.arr.dims.length=p:=by
 have hn:cY st.arrays j=x.arr.dims.length:=by
  unfold cY
  rw[h.aft.arr,Int.toNat_natCast,List.getElem?_map,hx]
  rfl
 refine⟨hn,fun q hq ha=>?_,fun p hs=>?_⟩
 ·obtain⟨_,_,_,k4,_,k6,_⟩:=(v.pls q hq).dims v.sch
  rw[ha,hn]at k4 k6
  have hg:=fw v.keys (k:=q.1) (v:=q.2) hq
  rw[<-k6]at hg
  exact⟨_,rfl,k6,k4,(h.at_ hdb hx k4).1 _ hg⟩
 ·have hl:=h.spl hdb hx hs
  cases hg:bQ st.places (be j p) with
  |none=>exact absurd hs ((h.at_ hdb hx hl).2 hg)
  |some s =>
   have hm:=jC hg
   obtain⟨_,_,k3,k4,_,k6,_⟩:=(v.pls _ hm).dims v.sch
   have ea:(be (j:Int) p).a=j:=rfl
   dsimp only at k3 k4 k6
   rw[ea,hn]at k3 k4 k6
   exact⟨s,hm,(h.at_ hdb hx hl).1 s hg,gK k6 (by omega) (by omega)⟩
theorem eD.cells(v:dy st){j:Nat}{x:Nm}(hx:db[j]?=some x){c:aR}:c∈bj st.arrays st.places j↔c.vals≠[]/\uB x l c.at_ c.vals:=by
 obtain⟨hn,k1,k2⟩:=h.key hdb v hx
 unfold bj
 rw[List.mem_filterMap]
 constructor
 ·rintro⟨q,hq,he⟩
  unfold gq at he
  split at he
  ·rename_i hc
   obtain⟨p,rfl,_,_,k5⟩:=k1 q hq hc.1
   simp only[Option.some.injEq]at he
   rw[hc.1,hn]at he
   subst he
   exact⟨fun hz=>hc.2 (by have hz:q.2.vals=[]:=hz;rw[hz];rfl),k5⟩
  ·cases he
 ·rintro⟨hne,hc⟩
  obtain⟨s,hm,hc2,he⟩:=k2 _ hc.spot
  refine⟨_,hm,?_⟩
  have hv:=hc.uniq h.ok (List.mem_of_getElem? hx) hc2
  have ea:(be (j:Int) c.at_).a=j:=rfl
  unfold gq
  dsimp only
  rw[ea,hn,he,if_pos ⟨rfl,fun hz=>hne (by rw[hv];exact List.eq_nil_of_length_eq_zero hz)⟩,<-hv]
theorem eD.sameDb(v:dy st){out out':List Nm}(hr:rN st.arrays st.places out)(hlen:out.length=st.arrays.length)(hl':out'.length=db.length)(hd:∀(j:Nat) x y,db[j]?=some x->out'[j]?=some y->CN x l y):out=out':=by
 have ha:st.arrays.length=db.length:=by rw[h.aft.arr,List.length_map]
 refine List.ext_getElem (by omega) fun j h1 h2=>?_
 obtain⟨x',hx',e1,e2,e3,e4,e5⟩:=hr j _ (List.getElem?_eq_getElem h1)
 have hj:j<db.length:=by omega
 obtain⟨x,hx⟩:∃x,db[j]?=some x:=⟨_,List.getElem?_eq_getElem hj⟩
 rw[h.aft.arr,List.getElem?_map,hx,Option.map_some,Option.some.injEq]at hx'
 subst hx'
 obtain⟨d1,d2,d3,d4,d5,d6⟩:=hd j x _ hx (List.getElem?_eq_getElem h2)
 have hc:out[j].arr.cells=out'[j].arr.cells:=by
  refine j9 ((List.perm_ext_iff_of_nodup (nU e5) (nU d4)).2 fun c=>?_) e5 d4
  rw[e4.mem_iff,h.cells hdb v hx]
  exact⟨fun hc=>d6 c.at_ c.vals hc.2 hc.1,d5 c⟩
 refine BN (e1.trans d1.symm) ?_
 have k2:=e2.trans d2.symm
 have k3:=e3.trans d3.symm
 generalize out[j].arr=A at *
 generalize out'[j].arr=B at *
 cases A
 cases B
 simp only at hc k2 k3
 rw[hc,k2,k3]
theorem eD.count(v:dy st){pss:List (List (List Int))}(hl:pss.length=db.length)(hp:∀(j:Nat) x ps,db[j]?=some x->pss[j]?=some ps->wJ x l ps):st.places.length=f9 pss:=by
 have one:∀(j:Nat) (hj:j<pss.length),(st.places.countP fun q=>decide (q.1.a=(j:Int)))=pss[j].length:=by
  intro j hj
  obtain⟨x,hx⟩:∃x,db[j]?=some x:=⟨_,List.getElem?_eq_getElem (by omega)⟩
  obtain⟨hn,k1,k2⟩:=h.key hdb v hx
  obtain⟨p1,_,p3⟩:=hp j x _ hx (List.getElem?_eq_getElem hj)
  rw[List.countP_eq_length_filter,<-List.length_map (fun q:Pl×dE=>q.1),<-List.length_map (be (j:Int))]
  refine((List.perm_ext_iff_of_nodup ?_ ?_).2 fun k=>?_).length_eq
  ·exact v.keys.sublist (List.filter_sublist.map _)
  ·rw[List.nodup_iff_pairwise_ne,List.pairwise_map]
   refine p1.imp_of_mem fun {a b} ha hb hab he=>?_
   have l1:=h.spl hdb hx ((p3 a).1 ha)
   have l2:=h.spl hdb hx ((p3 b).1 hb)
   have h4:=(h.ok.sh x (List.mem_of_getElem? hx)).1
   rw[gK he (by omega) (by omega),bB.2 rfl]at hab
   omega
  ·simp only[List.mem_map,List.mem_filter,decide_eq_true_eq]
   constructor
   ·rintro⟨q,⟨hq,ha⟩,rfl⟩
    obtain⟨p,_,e,_,hc⟩:=k1 q hq ha
    exact⟨p,(p3 p).2 hc.spot,e⟩
   ·rintro⟨p,hpm,rfl⟩
    obtain⟨s,hm,_⟩:=k2 p ((p3 p).1 hpm)
    exact⟨_,⟨hm,rfl⟩,rfl⟩
 have all:∀n,n<=pss.length->(st.places.countP fun q=>decide (q.1.a<(n:Int)))=f9 (pss.take n):=by
  intro n
  induction n with
  |zero =>
   intro _
   rw[List.take_zero,List.countP_eq_zero.2 fun q hq=>by have:=(v.pls q hq).a0;simp;omega]
   rfl
  |succ n ih =>
   intro hn
   have e:(st.places.countP fun q=>decide (q.1.a<((n+1:Nat):Int)))=(st.places.countP fun q=>decide (q.1.a<(n:Int)))+st.places.countP fun q=>decide (q.1.a=(n:Int)):=by
    generalize st.places=L
    induction L with
    |nil=>rfl
    |cons q r ih =>
     simp only[List.countP_cons,ih,decide_eq_true_eq]
     split<;>split<;>split<;>omega
   rw[e,ih (by omega),one n (by omega),<-List.take_append_getElem (by omega:n<pss.length),yR]
 have:=all pss.length (Nat.le_refl _)
 rw[List.take_length,List.countP_eq_length.2 fun q hq=>by
  have:=((v.pls q hq).dims v.sch).1
  have h0:=(v.pls q hq).a0
  have ha:st.arrays.length=db.length:=by rw[h.aft.arr,List.length_map]
  simp
  omega]at this
 exact this
end
theorem eD.low{db:List Nm}{l:List Bt}{st:bg}(h:eD db l st)(hdb:mn db=0)(v:dy st){pss:List (List (List Int))}(hl:pss.length=db.length)(hp:∀(j:Nat) x ps,db[j]?=some x->pss[j]?=some ps->wJ x l ps):st.low=1+8*db.length+l.length+3*f9 pss:=by
 have e:=h.count hdb v hl hp
 unfold bg.low
 rw[e,h.aft.bat,h.aft.arr,List.length_map,List.length_map]
 omega
theorem eD.lowS{db:List Nm}{l:List Bt}{st:bg}(h:eD db l st):eD db l { st with use:=st.low }:=⟨⟨h.aft.arr,h.aft.bat,h.aft.at_,h.aft.apt,h.aft.tok⟩,h.chk,h.ok⟩
theorem eD.like{db:List Nm}{l:List Bt}{s t:bg}(h:eD db l s)(v:dy s)(k:gf t s):eD db l t:=⟨h.aft.like v.keys k,h.chk,h.ok⟩
theorem eD.toks{db:List Nm}{l:List Bt}{st:bg}(h:eD db l st):st.batches.map (·.token)=l.map (·.token):=by rw[h.aft.bat,List.map_map];rfl
theorem eD.put{db:List Nm}{l:List Bt}{st:bg}(h:eD db l st)(hdb:mn db=0)(hln:l.length<=19){b:Bt}(hbn:b.changes.length<=20)(half:Nat):
 st.putS half b=if rm db b≠0 then (false,rm db b,st) else if b.token∈l.map (·.token) then (false,0,st) else if (half:Int)<st.use+b.weight then (false,18,st) else (true,0,st.commit b):=by
 have e1:st.checkE b=rm db b:=by rw[xL,h.aft.arr,qI]
 have e2:(st.batches.any (fun x=>decide (x.token=b.token))=true)=(b.token∈l.map (·.token)):=by
  rw[<-h.toks]
  simp[List.any_eq_true,List.mem_map]
 unfold bg.putS
 rw[e1]
 simp only[e2]
theorem eD.snoc{db:List Nm}{l:List Bt}{st:bg}(h:eD db l st)(hdb:mn db=0)(hln:l.length<=19){b:Bt}(hbn:b.changes.length<=20)(hc:rm db b=0)(ht:b.token∉l.map (·.token)):eD db (l++[b]) (st.commit b):=by
 have hc':rm (db.map aB) b=0:=by rw[qI];exact hc
 have hok:=et (st:=⟨0,db.map aB,[],[],0⟩) hc'
 have hnd:=(Bf hok.dup).1
 have hm:∀{P:Bt->Prop},(∀x∈l,P x)->P b->∀x∈l++[b],P x:=fun h1 h2 x hx=>(List.mem_append.1 hx).elim (h1 x) fun h=>by simp at h;subst h;exact h2
 refine⟨h.aft.commit hnd fun x hx he=>ht (List.mem_map.2 ⟨x,hx,he⟩),hm h.chk hc,h.ok.f,h.ok.sh,h.ok.cn,h.ok.cs,h.ok.cl,by simp;omega,hm h.ok.bn hbn,hm h.ok.bl ?_,hm h.ok.bd ?_,?_⟩
 ·intro c hcm
  obtain⟨y,hy,hck⟩:=hok.arr
  have hy':(db.map aB)[(aI (db.map aB) b.array).toNat]?=some y:=hy
  rw[List.getElem?_map]at hy'
  obtain⟨x,hx,rfl⟩:=Option.map_eq_some_iff.1 hy'
  have hs:=h.ok.sh x (List.mem_of_getElem? hx)
  have:=hck c hcm
  unfold bF at this
  split at this
  ·cases this
  ·have e:(aB x).arr.dims.length=x.arr.dims.length:=rfl
   have e2:(aB x).arr.attrs.length=x.arr.attrs.length:=rfl
   omega
 ·have e:(b.changes.map fun c=>be (aI (db.map aB) b.array) c.at_)=(b.changes.map (·.at_)).map (be (aI (db.map aB) b.array)):=by rw[List.map_map];rfl
  have hnd':(b.changes.map fun c=>be (aI (db.map aB) b.array) c.at_).Nodup:=hnd
  rw[e,List.nodup_iff_pairwise_ne,List.pairwise_map]at hnd'
  rw[List.nodup_iff_pairwise_ne]
  exact hnd'.imp fun hne he=>hne (by rw[he])
 ·rw[List.map_append,List.nodup_append]
  refine⟨h.ok.tk,by simp,fun t ht' u hu he=>?_⟩
  simp at hu
  subst hu
  exact ht (he▸ht')
theorem eD.start{db:List Nm}(hdb:mn db=0)(h8:∀x∈db,x.arr.cells.length<=8)(i:Int):eD db [] { aU db with id:=i }:=by
 obtain⟨g1,g2,hnd⟩:=lJ hdb
 refine⟨(Fq.start (db:=db) (L:=[]) i).aft,by simp,g1,fun x hx=>?_,h8,fun x hx=>(dQ (g2 x hx).2).2.2.2,fun x hx c hc=>?_,by simp,by simp,by simp,by simp,by simp⟩
 ·have:=fH (dQ (g2 x hx).2).1
  omega
 ·have:=fH (dQ (g2 x hx).2).1
  have:=lG ((dQ (g2 x hx).2).2.2.1 c hc)
  omega
end Go.Vc
namespace Go.Vc
open Go Go.Proofs
open Go.Value Go.Ending Go.IntKind
set_option maxRecDepth 100000
def sC(wh:Int)(d:Nat)(pa:Option Addr)(pn:Nat)(pc:Nat)(w4:World)(k1:Nat)(s:Nat)(R:Ending->World->Prop)(P1:List Value->World->Prop):Prop :=
 (9:Int)≠(0:Int)/\(wh.tmod 9=8->ag Zz 33 #[pointer (some (Addr.mk d 0 none)),slice pa pn pc] w4 fun e3 w5 =>
 ∃n2,e3=returned (int i64 n2)/\∃l3,KpL l3 w4 w5/\af k1 l3/\(¬n2≠0->ag Zz 14 #[pointer (some (Addr.mk s 0 none))] w5 fun e4 w6 =>
 ∃n3,e4=returned (int i64 n3)/\∃l4,KpL l4 w5 w6/\af k1 l4/\(¬n3≠17->ag Zz 34 #[pointer (some (Addr.mk d 0 none))] w6 fun e5 w7 =>
 ∃n4,e5=returned (int i64 n4)/\∃l5,KpL l5 w6 w7/\af k1 l5/\(n4≠0->R (returned (pointer none)) w7)/\(¬n4≠0->P1 [] w7))/\(n3≠17->R (returned (pointer none)) w6))/\(n2≠0->R (returned (pointer none)) w5))/\(¬wh.tmod 9=8->P1 [] w4)
def kg(w:World)(k1:Nat)(wh:Int)(d:Nat)(pa:Option Addr)(pn:Nat)(pc:Nat)(s:Nat)(R:Ending->World->Prop):Prop :=
 ∃(P1:List Value->World->Prop),(∀w4,KpL [] w w4->k1<w4.heap.size->sC wh d pa pn pc w4 k1 s R P1)/\∀w8,k1<w8.heap.size->P1 [] w8->ag Zz 15 #[pointer (some (Addr.mk d 0 none))] w8 fun e6 w9 =>
 ∃a1 n5,e6=returned (tuple #[pointer a1,int i64 n5])/\∃l6,KpL l6 w8 w9/\af k1 l6/\ag Zz 29 #[pointer (some (Addr.mk s 0 none))] w9 fun e7 w10 =>
 ∃n6 n7,e7=returned (tuple #[int i64 n6,int i64 n7])/\KpL [] w9 w10/\(¬n5≠0->(n7≠17->R (returned (pointer none)) w10)/\(¬n7≠17->R (returned (pointer a1)) w10))/\(n5≠0->R (returned (pointer none)) w10)
section
variable{w:World}{R:Ending->World->Prop}
theorem BD{d:Nat}{s:Nat}{r:Nat}{wh:Int}{tok:ByteArray}{stm:Int}{arn:ByteArray}{ca:Option Addr}{cn cc:Nat}{pa:Option Addr}{pn pc:Nat}
 (h :
 ∀k1,w.heap.size<=k1->(9:Int)≠(0:Int)/\(wh.tmod 9=6->∀w1,KpL [] w w1->k1<w1.heap.size->ag Zz 85 #[pK r] w1 fun e1 w2 =>
 e1=returned (tuple #[])/\∃l1,KpL l1 w1 w2/\af k1 l1/\ag Zz 14 #[pK s] w2 fun e2 w3 =>
 ∃n1,e2=returned (iv n1)/\∃l2,KpL l2 w2 w3/\af k1 l2/\(n1≠0->R (returned (pointer none)) w3)/\(¬n1≠0->R (returned (pK s)) w3))/\(¬wh.tmod 9=6->(wh.tmod 9=7->kg w k1 wh d pa pn pc s R)/\(¬wh.tmod 9=7->(wh.tmod 9=8->kg w k1 wh d pa pn pc s R)/\(¬wh.tmod 9=8->∀w18,KpL [] w w18->k1<w18.heap.size->ag Zz 13 (#[pK s,agg #[string tok,iv stm,string arn,slice ca cn cc]]) w18 fun e13 w19 =>
 ∃b1 n14,e13=returned (tuple #[bv b1,iv n14])/\∃l11,KpL l11 w18 w19/\af k1 l11/\ag Zz 86 (#[pK r,agg #[string tok,iv stm,string arn,slice ca cn cc]]) w19 fun e14 w20 =>
 ∃b2 n15,e14=returned (tuple #[bv b2,iv n15])/\∃l12,KpL l12 w19 w20/\af k1 l12/\((!b1 == b2)=false->(n14≠n15->R (returned (pointer none)) w20)/\(¬n14≠n15->R (returned (pK s)) w20))/\((!b1 == b2)=true->R (returned (pointer none)) w20))))):Calls Zz 22 #[pK d,pK s,pK r,agg #[int u8 wh,string tok,iv stm,string arn,slice ca cn cc,slice pa pn pc]] w R :=
 fz { cuts:=[⟨11,[],[8]++rg 31 21,[]⟩],muts:=[13,14,15,33,34,85,86],lt:=true } [av (pK d),av (pK s),av (pK r),.a (.agg [.v (.int .u8 wh),.v (.string tok),.v (iv stm),.v (.string arn),.v (.slice ca cn cc),.v (.slice pa pn pc)])] Tryz.func22 h
theorem zd{sec:Int}{dba:Option Addr}{dbn dbc:Nat}{la:Option Addr}{ln lc:Nat}
 (h :
 ag Zz 8 #[slice dba dbn dbc] w fun e1 w1 =>
 ∃b1,e1=returned (bv b1)/\KpL [] w w1/\((!b1)=false->((20:Int)<(↑ln:Int)->ag Zz 9 #[] w1 fun e2 w2 =>
 ∃b2,e2=returned (bv b2)/\KpL [] w1 w2/\R (returned (bv b2)) w2)/\(¬(20:Int)<(↑ln:Int)->∃(P1:LP)(P2:LM),P1 [iv 0] w1/\∀n1 w3,P1 [iv n1] w3->(n1<(↑ln:Int)->Ad la n1 ln fun d1=>∃s1 n2 s2 a1 k1 k2,ao w3 ((d1.add (n1.toNat*6)).add 1) [string s1,iv n2,string s2,slice a1 k1 k2]/\ag Zz 18 (#[agg #[string s1,iv n2,string s2,slice a1 k1 k2]]) w3 fun e3 w4 =>
 ∃b3,e3=returned (bv b3)/\KpL [] w3 w4/\((!b3)=false->Ad la n1 ln fun d2=>∃a2 k3 k4,ao w4 ((d2.add (n1.toNat*6)).add 5) [slice a2 k3 k4]/\((256:Int)<(↑k3:Int)->ag Zz 9 #[] w4 fun e4 w5 =>
 ∃b4,e4=returned (bv b4)/\KpL [] w4 w5/\R (returned (bv b4)) w5)/\(¬(256:Int)<(↑k3:Int)->ar i64 (n1+1)/\P1 [iv (n1+1)] w4/\P2 [iv (n1+1)] w4<P2 [iv n1] w3))/\((!b3)=true->ag Zz 9 #[] w4 fun e5 w6 =>
 ∃b5,e5=returned (bv b5)/\KpL [] w4 w6/\R (returned (bv b5)) w6))/\(¬n1<(↑ln:Int)->ar i64 sec/\ar i64 (64+sec)/\ag Zz 19 #[iv (64+sec)] w3 fun e6 w7 =>
 ∃a3 n3,e6=returned (tuple #[pointer a3,iv n3])/\KpL [] w3 w7/\(n3≠0->R (returned (bv false)) w7)/\(¬n3≠0->ag Zz 15 #[pointer a3] w7 fun e7 w8 =>
 ∃a4 n4,e7=returned (tuple #[pointer a4,iv n4])/\∃l1,KpL l1 w7 w8/\ag Zz 20 #[pointer a3,slice dba dbn dbc] w8 fun e8 w9 =>
 ∃a5 n5,e8=returned (tuple #[pointer a5,iv n5])/\∃l2,KpL l2 w8 w9/\ag Zz 21 #[iv (64+sec),slice dba dbn dbc] w9 fun e9 w10 =>
 ∃a6 n6,e9=returned (tuple #[pointer a6,iv n6])/\KpL [] w9 w10/\(¬n4≠7->(¬n5≠n6->((!(decide ¬a5=none) == decide (n5=0))=true->R (returned (bv false)) w10)/\((!(decide ¬a5=none) == decide (n5=0))=false->(n5≠0->ag Zz 9 #[] w10 fun e10 w11 =>
 ∃b6,e10=returned (bv b6)/\KpL [] w10 w11/\R (returned (bv b6)) w11)/\(¬n5≠0->∃(P3:LP) (P4:LM),P3 [pointer a5,iv 0] w10/\∀a7 n7 w12,P3 [pointer a7,iv n7] w12->(n7<(↑ln:Int)->Ad la n7 ln fun d3=>∃n8 s3 n9 s4 a8 k5 k6 a9 k7 k8,ao w12 (d3.add (n7.toNat*6)) [int u8 n8,string s3,iv n9,string s4,slice a8 k5 k6,slice a9 k7 k8]/\ag Zz 22 (#[pointer a3,pointer a7,pointer a6,agg #[int u8 n8,string s3,iv n9,string s4,slice a8 k5 k6,slice a9 k7 k8]]) w12 fun e11 w13 =>
 ∃a10,e11=returned (pointer a10)/\∃l3,KpL l3 w12 w13/\(¬a10=none->ag Zz 23 #[pointer a10,pointer a6] w13 fun e12 w14 =>
 ∃b7,e12=returned (bv b7)/\KpL [] w13 w14/\((!b7)=true->R (returned (bv false)) w14)/\((!b7)=false->ar i64 (n7+1)/\P3 [pointer a10,iv (n7+1)] w14/\P4 [pointer a10,iv (n7+1)] w14<P4 [pointer a7,iv n7] w12))/\(a10=none->R (returned (bv false)) w13))/\(¬n7<(↑ln:Int)->ag Zz 9 #[] w12 fun e13 w15 =>
 ∃b8,e13=returned (bv b8)/\KpL [] w12 w15/\R (returned (bv b8)) w15))))/\(n5≠n6->R (returned (bv false)) w10))/\(n4≠7->R (returned (bv false)) w10)))))/\((!b1)=true->ag Zz 9 #[] w1 fun e14 w16 =>
 ∃b9,e14=returned (bv b9)/\KpL [] w1 w16/\R (returned (bv b9)) w16)):Calls Zz 4 #[int u8 sec,slice dba dbn dbc,slice la ln lc] w R :=
 fz { loops:=[⟨20,[11,15],[6]++rg 92 22,[]⟩,⟨4,[7],[6]++rg 25 23,[]⟩],muts:=[15,20,22],lt:=true } [av (.int .u8 sec),av (.slice dba dbn dbc),av (.slice la ln lc)] Tryz.func4 h
end
end Go.Vc
namespace Go.Vc
open Go Go.Proofs
theorem wX:∀{l:List Int},(∀x∈l,x=0)->eT l=0:=by
 intro l
 unfold eT
 induction l with
 |nil=>intro _;rfl
 |cons c r ih =>
  intro h
  rw[List.foldl_cons,h c (by simp)]
  exact ih fun x hx=>h x (by simp[hx])
theorem um(n:Nat):(cF n).newest=0:=by
 have hz:∀i,eT ((aF (cF n).now i).take 8)=0:=fun i=>wX fun x hx=>by
  have h1:=List.mem_of_mem_take hx
  unfold aF cF at h1
  exact List.eq_of_mem_replicate (List.mem_of_mem_drop (List.mem_of_mem_take h1))
 have hn:∀i,(cF n).noted i 0=0:=fun i=>by
  unfold Dk.noted
  rw[hz,if_neg (by simp)]
 unfold Dk.newest
 rw[hn,hn]
theorem uc{M Fd:List Nat}{w:World}{d n:Nat}(h:bz M w d (cF n) Fd)(h2:2<=n):Calls Zz 15 #[pK d] w (aA (.tuple #[.pointer none,iv 7]) w):=by
 refine rF ⟨(gg h).mono ?_⟩
 rintro en w1 ⟨rfl,hw1⟩
 refine⟨_,rfl,hw1,fun hc=>by simp at hc,fun _=>⟨_,(h.kp0 hw1).cell.1,fun hc=>(by cases hc),fun _=>⟨(pC (h.kp0 hw1) h2).mono ?_⟩⟩⟩
 rintro en w2 ⟨hw2,hres⟩
 rw[if_neg (by simp[cF])]at hres
 obtain⟨l,rfl,hl2,hlnew,hnI⟩:=hres
 exact⟨_,_,rfl,hw2,fun hc=>absurd rfl hc,fun _=>⟨⟨l,0,none⟩,rfl,_,hl2.ld1,fun _=>⟨rfl,hw1.trans hw2⟩,fun hc=>absurd (um n) hc⟩⟩
theorem dS.opn3{M G:List Nat}{w:World}{s d n:Nat}{c:Int}{st:bg}(h:dS M w s d n c st G)(hcl:c<900000):Calls Zz 15 #[pK d] w fun e w'=>∃s' st' G',e=.returned (.tuple #[.pointer (some ⟨s',0,none⟩),iv 0])/\gf st' st/\
 dS M w' s' d n (c+1) st' G'/\ci G w G' w'/\Calls Zz 29 #[pK s] w' (aA (.tuple #[iv 0,iv 17]) w'):=by
 obtain⟨l,num,nxt,k,F,Fd,hS,hL,rfl,hc1,hk,rfl⟩:=h
 have hn10:=hL.n10
 have hk0:=hL.k0
 obtain⟨o1,o2,o3,o4,o5,o6,o7,bs,ps,bt,hrec,hv,hb,hbl,hfin⟩:=hL.opened
 refine(AR (e:=nxt) hS.dk (by omega) o2 (by rw[o3];simp) (by omega) (by omega) (by rw[o1,o6];exact ae.2 (by omega)) (by rw[o1];exact hrec) hv hb hbl).mono ?_
 intro e w' hh
 rw[o1]at hh
 rw[if_neg (by simp[o5])]at hh
 obtain⟨s',l',F',Fd',rfl,h',hO⟩:=hh
 obtain⟨g1,g2⟩:=hfin ((k.clear num nxt).2.st+1) (by rw[o6])
 refine⟨s',_,F'++Fd',rfl,g1,⟨l',num,nxt,_,F',Fd',h'.step (KpL.refl [] w') (by simp) (fun b hb=>⟨.inl (by simp[hb]),h'.mlt b (by simp[hb])⟩),g2,o7,by omega,by dsimp only;rw[o6];omega,rfl⟩,⟨hO.kp.mono fun x hx=>by simp[hx],fun x hx=>(hO.new x hx).imp (fun h=>by simp[h]) id⟩,?_⟩
 have hsto:=hS.sto.step (M':=[]) hO.kp (fun b hb=>by simp[hb]) (by simp)
 have hid:=hL.id
 have hv':=hL.v
 have:=vU hsto h'.dk (by dsimp only;omega) ⟨hv'.u0,by have:=hv'.u1;omega⟩
 have e17:cw st { (k.clear num nxt).2 with st:=(k.clear num nxt).2.st+1 }=17:=by
  unfold cw
  rw[if_pos (.inr (by dsimp only;rw[o6];omega))]
 rw[e17,if_pos (by omega)]at this
 exact this
def rB(M:List Nat)(w:World)(s d n:Nat)(c:Int)(st:bg)(G:List Nat):Prop :=
 ∃l num nxt k ps F Fd,bU M w s l d num nxt st (Dk.fall k ps) F Fd/\Lv k num nxt st/\k.n=n/\num<=c/\k.st<=c/\G=F++Fd
theorem dS.crash{M Mc G:List Nat}{w:World}{s d n:Nat}{c:Int}{st:bg}(h:dS M w s d n c st G){ps:List Int}{ba:Option Addr}{bl bc:Nat}(hps:R (au (tI .u8)) (G++Mc) w ps [.slice ba bl bc])(hl:ps.length<=256):
 Calls Zz 33 #[pK d,.slice ba bl bc] w fun e w'=>e=.returned (iv 0)/\∃G',rB M w' s d n c st G'/\ci G w G' w':=by
 obtain⟨l,num,nxt,k,F,Fd,hS,hL,rfl,hc1,hk,rfl⟩:=h
 obtain⟨bs,qs,bt,hD,_⟩:=hL.disk
 have ec:k.crash ps=(0,k.fall ps):=by unfold Dk.crash;rw[if_neg (by omega),if_neg (by rw[hD.cl.on];simp)]
 refine(ze hS.dk (by rw[hD.pend];simp) (hps.weak fun b hb=>by simp[hb])).mono ?_
 rw[ec]
 rintro e w' ⟨rfl,Fd',hD',hO⟩
 refine⟨rfl,F++Fd',⟨l,num,nxt,k,ps,F,Fd',⟨?_,hD'⟩,hL,rfl,hc1,hk,rfl⟩,?_⟩
 ·exact hS.sto.step hO.kp (fun b hb=>by simp[hb]) fun b hb=>by
   rcases List.mem_append.1 hb with hb|hb
   ·exact⟨(hO.new b hb).imp (fun h=>by simp[h]) id,(hD'.own_lt b hb).1⟩
   ·exact⟨.inl (by simp[hb]),hD'.mlt b (by simp[hb])⟩
 ·exact⟨hO.kp.mono fun x hx=>by simp[hx],fun x hx=>by
   rcases List.mem_append.1 hx with hx|hx
   ·exact .inl (by simp[hx])
   ·exact(hO.new x hx).imp (fun h=>by simp[h]) id⟩
theorem rB.kp0{M G:List Nat}{w w':World}{s d n:Nat}{c:Int}{st:bg}(h:rB M w s d n c st G)(kp:KpL [] w w'):rB M w' s d n c st G:=by
 obtain⟨l,num,nxt,k,ps,F,Fd,hS,hL,hn,hc,hk,rfl⟩:=h
 exact⟨l,num,nxt,k,ps,F,Fd,hS.kp0 kp,hL,hn,hc,hk,rfl⟩
theorem rB.cmp{M G:List Nat}{w:World}{s d n:Nat}{c:Int}{st:bg}(h:rB M w s d n c st G):Calls Zz 14 #[pK s] w (aA (iv 17) w):=by
 obtain⟨l,num,nxt,k,ps,F,Fd,hS,hL,hn,hc,hk,rfl⟩:=h
 have er:cw st (Dk.fall k ps)=17:=by unfold cw;rw[if_pos (.inl rfl)]
 refine my fun k1 hk1 w1 hw1 hkn1=>⟨(gH (hS.kp0 hw1).sto (hS.kp0 hw1).dk).mono ?_⟩
 rintro e w2 ⟨rfl,hw2⟩
 rw[er]
 exact⟨_,rfl,hw2,fun _ _=>⟨rfl,hw1.trans hw2⟩,fun hr=>absurd (by omega) hr⟩
theorem rB.restart{M G:List Nat}{w:World}{s d n:Nat}{c:Int}{st:bg}(h:rB M w s d n c st G):Calls Zz 34 #[pK d] w fun e w'=>e=.returned (iv 0)/\∃G',dS M w' s d n c st G'/\ci G w G' w':=by
 obtain⟨l,num,nxt,k,ps,F,Fd,hS,hL,rfl,hc1,hk,rfl⟩:=h
 refine(sP hS.dk).mono ?_
 rintro e w' ⟨rfl,Fd',hD',hO⟩
 obtain⟨bs,qs,bt,hD,hB,hbt,hLk⟩:=hL.disk
 have hnow:(Dk.fall k ps).restart.now=k.now:=by
  show fk ps 0 k.pend k.dur=k.now
  rw[hD.pend,<-hD.cl.co hD.pend]
  rfl
 have hcl:Cl (Dk.fall k ps).restart:=⟨rfl,rfl,by rw[hnow];exact hD.cl.len,fun _=>rfl⟩
 have hL':Lv (Dk.fall k ps).restart num nxt st:=⟨hL.v,hL.id,hL.k0,hL.n1,hL.lo,hL.hi,hL.nx,bs,qs,bt,⟨hcl,hD.n2,hD.num0,hD.num1,by rw[hnow];exact hD.note,by rw[hnow];exact hD.log,rfl⟩,hB,hbt,hLk⟩
 refine⟨rfl,F++Fd',⟨l,num,nxt,_,F,Fd',⟨?_,hD'⟩,hL',rfl,hc1,hk,rfl⟩,?_⟩
 ·exact hS.sto.step hO.kp (fun b hb=>by simp[hb]) fun b hb=>by
   rcases List.mem_append.1 hb with hb|hb
   ·exact⟨(hO.new b hb).imp (fun h=>by simp[h]) id,(hD'.own_lt b hb).1⟩
   ·exact⟨.inl (by simp[hb]),hD'.mlt b (by simp[hb])⟩
 ·exact⟨hO.kp.mono fun x hx=>by simp[hx],fun x hx=>by
   rcases List.mem_append.1 hx with hx|hx
   ·exact .inl (by simp[hx])
   ·exact(hO.new x hx).imp (fun h=>by simp[h]) id⟩
end Go.Vc
namespace Go.Vc
open Go Go.Proofs
theorem CF{α:Type}{t:Ty α}{w:World}{b T:Nat}{c1 c2 c3:List Value}{x y z:α}{M:List Nat}(hk:w.heap[b]?=some (.cells (c1++(c2++c3)).toArray T (0,0)))(hkM:b∉M)(h1:R t M w x c1)(h2:R t M w y c2)(h3:R t M w z c3):R (au t) M w [x,y,z] [sK b 3 3]:=by
 have l1:c1.length=t.sz:=t.len h1
 have l2:c2.length=t.sz:=t.len h2
 refine⟨_,_,rfl,Nat.le_refl _,by show(3:Nat)<=140737488355328;omega,fun _=>⟨b,0,_,T,_,rfl,⟨ab hk,hkM⟩,hk,fun j u hu=>?_⟩⟩
 match j,hu with
 |0,hu =>
  simp at hu
  subst hu
  refine⟨_,h1,fun i v hv=>?_⟩
  have hi:i<c1.length:=(List.getElem?_eq_some_iff.1 hv).1
  simp only[List.toList_toArray,Nat.zero_mul,Nat.zero_add]
  rw[List.getElem?_append_left hi]
  exact hv
 |1,hu =>
  simp at hu
  subst hu
  refine⟨_,h2,fun i v hv=>?_⟩
  have hi:i<c2.length:=(List.getElem?_eq_some_iff.1 hv).1
  simp only[List.toList_toArray,Nat.one_mul,Nat.zero_add]
  rw[List.getElem?_append_right (by omega),l1,Nat.add_sub_cancel_left,List.getElem?_append_left hi]
  exact hv
 |2,hu =>
  simp at hu
  subst hu
  refine⟨_,h3,fun i v hv=>?_⟩
  simp only[List.toList_toArray,Nat.zero_add]
  rw[List.getElem?_append_right (by omega),List.getElem?_append_right (by omega)]
  have e:2*t.sz+i - c1.length - c2.length=i:=by omega
  rw[e]
  exact hv
 |j+3,hu=>simp at hu
theorem Dl{M Mc G:List Nat}{w:World}{s d n:Nat}{c:Int}{st:bg}(h:dS M w s d n c st G){b:Bt}{ca:Option Addr}{cn cc:Nat}(hc:R (au aC) (G++Mc) w b.changes [.slice ca cn cc]):
 Calls Zz 27 #[pK s,.agg #[.string b.token,iv b.stamp,.string b.array,.slice ca cn cc]] w fun e w'=>e=.returned (.bool ((st.putS ((n - 2) / 2) b).1&&decide ((st.putS ((n - 2) / 2) b).2.1=0)))/\
  ∃G',dS M w' s d n c (st.putS ((n - 2) / 2) b).2.2 G'/\ci G w G' w':=by
 refine C8 fun k1 hk1 w1 hw1=>⟨((h.kp0 hw1).put (hc.kp0 hw1)).mono ?_⟩
 rintro e w2 ⟨rfl,G',h2,hO⟩
 have hO':ci G w G' w2:=(ci.of0 hw1).trans hO
 refine⟨_,_,rfl,_,hO.kp,⟨fun hm=>by have:=(h.own_lt k1 hm).1;omega⟩,fun hb=>⟨?_,G',h2,hO'⟩,fun hb=>⟨?_,G',h2,hO'⟩⟩
 ·rw[hb];simp
 ·rw[hb];simp
def Fz:ByteArray:=⟨#[116]⟩
def yK(x y n:Int):aR:=⟨[x,y],[qT n]⟩
def Bz:Bt:=⟨⟨#[97]⟩,5,Fz,[yK 0 0 1,yK 1 0 2]⟩
def By:Bt:=⟨⟨#[98]⟩,4,Fz,[yK 1 0 3,yK 3 1 4]⟩
def D5(i:Int):bg:={ aU [CP] with id:=i }
def CI(i:Int):bg:=(D5 i).commit Bz
def Cn(i:Int):bg:=(CI i).commit By
theorem wK(i:Int):(D5 i).putS 31 Bz=(true,0,CI i):=by
 unfold bg.putS
 rw[if_neg,if_neg,if_neg]
 ·rfl
 ·show ¬(31:Int)<9+8
  omega
 ·show ¬([]:List bH).any _=true
  simp
 ·rw[Classical.not_not]
  kernel_rfl
theorem vP(i:Int):(CI i).putS 31 By=(true,0,Cn i):=by
 unfold bg.putS
 rw[if_neg,if_neg,if_neg]
 ·rfl
 ·show ¬(31:Int)<17+8
  omega
 ·show ¬([Bz.seen]:List bH).any (fun x=>decide (x.token=By.token))=true
  decide
 ·rw[Classical.not_not]
  kernel_rfl
theorem BR(i:Int):bj (Cn i).arrays (Cn i).places 0=[yK 0 0 1,yK 1 0 2,yK 3 1 4]:=by kernel_rfl
theorem EE:mn [CP]=0:=by kernel_rfl
theorem Am{M:List Nat}{w:World}(hM:∀b∈M,b<w.heap.size):Calls Zz 24 #[] w fun e w'=>KpL [] w w'/\∃d s G i,e=.returned (.tuple #[pK d,pK s,.bool true])/\dS M w' s d 64 1 (Cn i) G/\∀b∈G,w.heap.size<=b:=by
 have hmx:az=140737488355328:=rfl
 refine zS (u:=0) ⟨(np (n:=64) hM (by omega) (by omega)).mono ?_⟩
 rintro e w1 ⟨d,Fd,rfl,hk1,hD,hnew⟩
 refine⟨_,_,rfl,hk1,⟨(sW (M:=[]) (by simp)).mono ?_⟩⟩
 rintro e w2 ⟨a2,n2,c2,rfl,hk2,hR⟩
 refine⟨_,_,_,rfl,hk2,⟨(ER (hD.kp0 hk2) (by omega) (by omega) hR (by decide)).mono ?_⟩⟩
 intro e w3 hh
 rw[if_neg (by rw[EE];simp),if_neg (by show ¬(31:Int)<9;omega)]at hh
 obtain⟨s,G,i,rfl,hS,hO⟩:=hh
 have hnew2:∀b∈Fd,w.heap.size<=b:=hnew
 have k03:KpL [] w w3:=(hk1.trans hk2).more hO.kp fun b hb=>.inr (hnew2 b hb)
 have hG:∀b∈G,w.heap.size<=b:=fun b hb=>(hO.new b hb).elim (hnew2 b) fun hge=>Nat.le_trans (hk1.trans hk2).size hge
 refine⟨_,_,rfl,Fd,hO.kp,fun _=>⟨fun _=>⟨fun _=>⟨fun hc=>(by cases hc),fun _=>?_⟩,fun hc=>(by cases hc)⟩,fun hc=>absurd rfl hc⟩,fun hc=>absurd rfl hc⟩
 refine⟨hS.room.mono ?_⟩
 rintro e w4 ⟨rfl,hk4⟩
 refine⟨_,_,rfl,hk4,fun _=>⟨fun _=>?_,fun hc=>absurd rfl hc⟩,fun hc=>absurd (show(((64 - 2) / 2:Nat):Int) - 9=22 from rfl) hc⟩
 have hS4:=hS.kp0 hk4
 have s4:=hk4.size
 have gl4:∀b∈G,b<w4.heap.size:=fun b hb=>(hS4.own_lt b hb).1
 intro k3 hk3 w5 hw5 hkn5
 have gl5:∀b∈G,b<w5.heap.size:=fun b hb=>Nat.lt_of_lt_of_le (gl4 b hb) hw5.size
 refine⟨(jO (M:=G) gl5 (x:=0) (y:=0) (ae.2 (by omega)) (ae.2 (by omega)) (jJ (t:=tI .i64) (x:=(1:Int)) (M:=[]) hkn5 (by simp) ⟨rfl,ae.2 (by omega)⟩)).mono ?_⟩
 rintro e w6 ⟨a4,k4,k5,a5,k6,k7,rfl,hk6,hc1⟩
 refine⟨_,_,_,_,_,_,rfl,hk6,fun k8 hk8 w7 hw7 hkn7=>?_⟩
 have gl7:∀b∈G,b<w7.heap.size:=fun b hb=>Nat.lt_of_lt_of_le (gl5 b hb) (hk6.trans hw7).size
 refine⟨(jO (M:=G) gl7 (x:=1) (y:=0) (ae.2 (by omega)) (ae.2 (by omega)) (jJ (t:=tI .i64) (x:=(2:Int)) (M:=[]) hkn7.1 (by simp) ⟨rfl,ae.2 (by omega)⟩)).mono ?_⟩
 rintro e w8 ⟨a6,k9,k10,a7,k11,k12,rfl,hk8',hc2⟩
 refine⟨_,_,_,_,_,_,rfl,hk8',fun k13 hk13 w9 hw9 hkn9=>⟨(pD w9 _ _ _ _ _).mono ?_⟩⟩
 rintro e w10 ⟨rfl,hk10⟩
 refine⟨_,_,_,_,_,_,rfl,hk10,fun hkn10=>?_⟩
 have k410:KpL [] w4 w10:=((((hw5.trans hk6).trans hw7).trans hk8').trans hw9).trans hk10
 have hS10:=hS4.kp0 k410
 have s8:w4.heap.size<=w8.heap.size:=(((hw5.trans hk6).trans hw7).trans hk8').size
 have hb1:R (au aC) (G++[]) w10 Bz.changes [sK k13 2 2]:=by
  rw[List.append_nil]
  exact uN (t:=aC) (c1:=[_,_]) (c2:=[_,_]) hkn10.1 (fun hm=>by have:=gl4 _ hm;omega) (hc1.kp0 (((hw7.trans hk8').trans hw9).trans hk10)) (hc2.kp0 (hw9.trans hk10))
 refine⟨(Dl (st:=D5 i) (b:=Bz) hS10 hb1).mono ?_⟩
 rintro e w11 ⟨rfl,G1,hS11,hO11⟩
 have e31:(64 - 2) / 2=31:=rfl
 rw[e31,wK]at hS11
 rw[e31,wK]
 have gno:∀k,w4.heap.size<=k->k∉G:=fun k hk hm=>by have:=gl4 _ hm;omega
 have k011:KpL [] w w11:=((k03.trans hk4).trans k410).more hO11.kp fun b hb=>.inr (hG b hb)
 have hG1:∀b∈G1,w.heap.size<=b:=fun b hb=>(hO11.new b hb).elim (hG b) fun hge=>Nat.le_trans ((k03.trans hk4).trans k410).size hge
 have s5:=hw5.size
 have s6:=hk6.size
 have s7:=hw7.size
 refine⟨_,rfl,G,hO11.kp,⟨⟨gno _ (by omega)⟩,⟨gno _ (by omega)⟩,⟨gno _ (by omega)⟩⟩,fun _=>?_,fun hc=>(by simp at hc)⟩
 have gl11:∀b∈G1,b<w11.heap.size:=fun b hb=>(hS11.own_lt b hb).1
 intro k16 hk16 w12 hw12 hkn12
 have gl12:∀b∈G1,b<w12.heap.size:=fun b hb=>Nat.lt_of_lt_of_le (gl11 b hb) hw12.size
 refine⟨(jO (M:=G1) gl12 (x:=1) (y:=0) (ae.2 (by omega)) (ae.2 (by omega)) (jJ (t:=tI .i64) (x:=(3:Int)) (M:=[]) hkn12.1 (by simp) ⟨rfl,ae.2 (by omega)⟩)).mono ?_⟩
 rintro e w13 ⟨a9,k17,k18,a10,k19,k20,rfl,hk13',hc3⟩
 refine⟨_,_,_,_,_,_,rfl,hk13',fun k21 hk21 w14 hw14 hkn14=>?_⟩
 have gl14:∀b∈G1,b<w14.heap.size:=fun b hb=>Nat.lt_of_lt_of_le (gl12 b hb) (hk13'.trans hw14).size
 refine⟨(jO (M:=G1) gl14 (x:=3) (y:=1) (ae.2 (by omega)) (ae.2 (by omega)) (jJ (t:=tI .i64) (x:=(4:Int)) (M:=[]) hkn14.1 (by simp) ⟨rfl,ae.2 (by omega)⟩)).mono ?_⟩
 rintro e w15 ⟨a11,k22,k23,a12,k24,k25,rfl,hk15,hc4⟩
 refine⟨_,_,_,_,_,_,rfl,hk15,fun k26 hk26 w16 hw16 hkn16=>⟨(pD w16 _ _ _ _ _).mono ?_⟩⟩
 rintro e w17 ⟨rfl,hk17⟩
 refine⟨_,_,_,_,_,_,rfl,hk17,fun hkn17=>?_⟩
 have k1117:KpL [] w11 w17:=((((hw12.trans hk13').trans hw14).trans hk15).trans hw16).trans hk17
 have hS17:=hS11.kp0 k1117
 have s15:w11.heap.size<=w15.heap.size:=(((hw12.trans hk13').trans hw14).trans hk15).size
 have hb2:R (au aC) (G1++[]) w17 By.changes [sK k26 2 2]:=by
  rw[List.append_nil]
  exact uN (t:=aC) (c1:=[_,_]) (c2:=[_,_]) hkn17.1 (fun hm=>by have:=gl11 _ hm;omega) (hc3.kp0 (((hw14.trans hk15).trans hw16).trans hk17)) (hc4.kp0 (hw16.trans hk17))
 refine⟨(Dl (st:=CI i) (b:=By) hS17 hb2).mono ?_⟩
 rintro e w18 ⟨rfl,G2,hS18,hO18⟩
 rw[e31,vP]at hS18
 rw[e31,vP]
 have s12:=hw12.size
 have s13:=hk13'.size
 have s14:=hw14.size
 have s1011:=hO11.kp.size
 have s9:=hw9.size
 have s10:=hk10.size
 have s8':=hk8'.size
 have l13:=ab hkn10.1
 have l8:=ab hkn10.2.1
 have l3:=ab hkn10.2.2
 have gno1:∀k,w11.heap.size<=k->k∉G1:=fun k hk hm=>by have:=gl11 _ hm;omega
 have gno2:∀k,w4.heap.size<=k->k<w10.heap.size->k∉G1:=fun k hk hk' hm=>(hO11.new k hm).elim (gno k hk) fun hge=>by omega
 have fin:KpL [] w w18/\∀b∈G2,w.heap.size<=b:=⟨(k011.trans k1117).more hO18.kp fun b hb=>.inr (hG1 b hb),fun b hb=>(hO18.new b hb).elim (hG1 b) fun hge=>Nat.le_trans (k011.trans k1117).size hge⟩
 refine⟨_,rfl,G1,hO18.kp,⟨⟨gno1 _ (by omega)⟩,⟨gno1 _ (by omega)⟩,⟨gno1 _ (by omega)⟩,⟨gno2 _ (by omega) l13⟩,⟨gno2 _ (by omega) l8⟩,⟨gno2 _ (by omega) l3⟩⟩,fun _=>⟨fin.1,d,s,G2,i,by simp,hS18,fin.2⟩⟩
theorem xe(w:World):Calls Zz 9 #[] w (aA (.bool true) w):=by
 refine wR (u:=0) ⟨(Am (M:=[]) (by simp)).mono ?_⟩
 rintro e w1 ⟨hk1,d,s,G,i,rfl,hS,hG⟩
 refine⟨_,_,_,rfl,[],hk1,fun _=>?_,fun hc=>(by cases hc)⟩
 intro k1 hk1' w2 hw2 hkn2
 refine⟨(jO (M:=[]) (by simp) (x:=0) (y:=0) (ae.2 (by omega)) (ae.2 (by omega)) (jJ (t:=tI .i64) (x:=(1:Int)) (M:=[]) hkn2 (by simp) ⟨rfl,ae.2 (by omega)⟩)).mono ?_⟩
 rintro e w3 ⟨a3,k2,k3,a4,k4,k5,rfl,hk3,hc1⟩
 refine⟨_,_,_,_,_,_,rfl,hk3,fun k6 hk6 w4 hw4 hkn4=>?_⟩
 refine⟨(jO (M:=[]) (by simp) (x:=1) (y:=0) (ae.2 (by omega)) (ae.2 (by omega)) (jJ (t:=tI .i64) (x:=(2:Int)) (M:=[]) hkn4.1 (by simp) ⟨rfl,ae.2 (by omega)⟩)).mono ?_⟩
 rintro e w5 ⟨a5,k7,k8,a6,k9,k10,rfl,hk5,hc2⟩
 refine⟨_,_,_,_,_,_,rfl,hk5,fun k11 hk11 w6 hw6 hkn6=>?_⟩
 refine⟨(jO (M:=[]) (by simp) (x:=3) (y:=1) (ae.2 (by omega)) (ae.2 (by omega)) (jJ (t:=tI .i64) (x:=(4:Int)) (M:=[]) hkn6.1 (by simp) ⟨rfl,ae.2 (by omega)⟩)).mono ?_⟩
 rintro e w7 ⟨a7,k12,k13,a8,k14,k15,rfl,hk7,hc3⟩
 refine⟨_,_,_,_,_,_,rfl,hk7,fun k16 hk16 w8 hw8 hkn8=>?_⟩
 have k18:KpL [] w1 w8:=(((((hw2.trans hk3).trans hw4).trans hk5).trans hw6).trans hk7).trans hw8
 have hcs:R (au aC) [] w8 [yK 0 0 1,yK 1 0 2,yK 3 1 4] [sK k16 3 3] :=
  CF (t:=aC) (c1:=[_,_]) (c2:=[_,_]) (c3:=[_,_]) hkn8.1 (by simp) (hc1.kp0 ((((hw4.trans hk5).trans hw6).trans hk7).trans hw8)) (hc2.kp0 ((hw6.trans hk7).trans hw8)) (hc3.kp0 hw8)
 have hsort:bq [yK 0 0 1,yK 1 0 2,yK 3 1 4]:=by
  unfold bq
  simp only[List.pairwise_cons,List.mem_cons,List.not_mem_nil,or_false,forall_eq_or_imp,forall_eq,List.Pairwise.nil,and_true]
  exact⟨⟨by decide,by decide⟩,by decide,fun _ h=>h.elim⟩
 refine⟨(CV (hS.kp0 k18) hcs rfl (fun ys hp hs=>j9 (by rw[BR]at hp;exact hp) hs hsort) (by decide)).mono ?_⟩
 rintro e w9 ⟨rfl,hk9⟩
 refine⟨_,rfl,hk9,fun hc=>(by cases hc),fun _ _=>⟨((hS.kp0 k18).kp0 hk9).room.mono ?_⟩⟩
 rintro e w10 ⟨rfl,hk10⟩
 exact⟨_,_,rfl,hk10,fun _ _=>⟨rfl,((hk1.trans k18).trans hk9).trans hk10⟩,fun hc=>absurd (show(((64 - 2) / 2:Nat):Int) - 25=6 from rfl) hc⟩
end Go.Vc
namespace Go.Vc
open Go Go.Proofs
def ch(t:ByteArray)(s:Int)(l:List aR):Bt:=⟨t,s,Fz,l⟩
end Go.Vc
namespace Go.Vc
open Go Go.Proofs
theorem Dt{M:List Nat}{w:World}{v:ByteArray}{cs:List Value}(h:R tS M w v cs):cs=[.string v]:=h.1
theorem ti{M M':List Nat}{w:World}{xs ys:List ByteArray}{a b:Option Addr}{n c m q:Nat}(hx:R (au tS) M w xs [.slice a n c])(hy:R (au tS) M' w ys [.slice b m q]):Calls Zz 31 #[.slice a n c,.slice b m q] w (aA (.bool (decide (xs=ys))) w):=by
 obtain⟨rfl,hn1,hn2⟩:=hx.sl_len
 obtain⟨rfl,hm1,hm2⟩:=hy.sl_len
 have hmx:az=140737488355328:=rfl
 refine oE ⟨fun hne=>?_,fun he=>⟨fun vs w'=>∃i:Nat,vs=[iv (i:Int)]/\KpL [] w w'/\i<=xs.length/\xs.take i=ys.take i,fun vs _=>match vs with|[.int _ i]=>xs.length - i.toNat|_=>0,⟨0,rfl,KpL.refl _ _,by omega,by simp⟩,?_⟩⟩
 ·have:xs≠ys:=by rintro rfl;exact hne rfl
  rw[decide_eq_false this]
  exact⟨rfl,KpL.refl _ _⟩
 have hl:xs.length=ys.length:=by omega
 rintro n1 w1 ⟨i,hv,hk,hi,ht⟩
 obtain rfl:=v1 hv
 constructor
 ·intro hlt
  have h1:i<xs.length:=by omega
  have h2:i<ys.length:=by omega
  obtain⟨ad,cs,rfl,hv1,hld1,_,_⟩:=(hx.kp0 hk).sl_get h1
  obtain⟨ad2,cs2,rfl,hv2,hld2,_,_⟩:=(hy.kp0 hk).sl_get h2
  have e1:=Dt hv1
  have e2:=Dt hv2
  subst e1 e2
  refine⟨ad,rfl,by omega,hlt,_,hld1,ad2,rfl,by omega,by omega,_,hld2,fun hne w2 hw2=>?_,fun heq=>⟨ae.2 (by omega),fun w3 hw3=>⟨⟨i+1,rfl,hk.trans hw3,by omega,eJ h1 h2 ht (Classical.not_not.1 heq)⟩,by dsimp only;omega⟩⟩⟩
  rw[decide_eq_false (dU h1 h2 hne)]
  exact⟨rfl,hk.trans hw2⟩
 ·intro hge
  have:xs=ys:=by
   rw[<-List.take_length (l:=xs),<-List.take_length (l:=ys),<-hl,show xs.length=i from by omega]
   exact ht
  rw[decide_eq_true this]
  exact⟨rfl,hk⟩
end Go.Vc
namespace Go.Vc
open Go Go.Proofs
structure Ac where
 what:Int
 b:Bt
 picks:List Int
def E8:Ty Ac:=tM (fun a=>(a.what,(a.b,a.picks))) (tP (tI .u8) (tP B8 (au (tI .u8))))
theorem R.ac{M:List Nat}{w:World}{x:Ac}{cs:List Value}(h:R E8 M w x cs):∃a n c b m d,cs=[.int .u8 x.what,.string x.b.token,iv x.b.stamp,.string x.b.array,.slice a n c,.slice b m d]/\ar .u8 x.what/\R B8 M w x.b [.string x.b.token,iv x.b.stamp,.string x.b.array,.slice a n c]/\R (au (tI .u8)) M w x.picks [.slice b m d]:=by
 obtain⟨c1,c2,rfl,⟨rfl,h1⟩,y,z,rfl,h2,h3⟩:=h
 obtain⟨a,n,c,rfl,_⟩:=R.bt (M:=M) (w:=w) h2
 obtain⟨b,d,rfl⟩:=R.sl_form (M:=M) (w:=w) h3
 exact⟨_,_,_,_,_,_,rfl,h1,h2,h3⟩
theorem aT.step{M M' N:List Nat}{w w':World}{r:Nat}{n u:Int}{first:List Nm}{l:List Bt}(h:aT M w r n first l u)(kp:KpL N w w')(hs:∀b∈N,b∈M)(hn:∀b∈M',b∈M∨w.heap.size<=b):aT M' w' r n first l u:=by
 obtain⟨a,p,q,b,m,c,h1,h2,h3,h4⟩:=h
 have hr:=ab h1
 have e:∀b∈r::M',b∈r::M∨w.heap.size<=b:=fun b hb=>(List.mem_cons.1 hb).elim (fun h=>.inl (by simp[h])) fun h=>(hn b h).imp (fun h=>by simp[h]) id
 exact⟨a,p,q,b,m,c,(kp.blk r hr fun hm=>h2 (hs r hm)).trans h1,fun hm=>(hn r hm).elim h2 fun hge=>by omega,h3.step kp (fun b hb=>List.mem_cons_of_mem _ (hs b hb)) e,h4.step kp (fun b hb=>List.mem_cons_of_mem _ (hs b hb)) e⟩
structure jU (w0 w:World) (d r n:Nat) (db:List Nm) (m s:Nat) (c:Int) (st:bg) (G:List Nat) (l:List Bt) (u:Int):Prop where
 sys:dS [r] w s d n c st G
 ref:aT G w r n db l u
 tw:eD db l st
 us:st.use=u
 cm:c<=m+1
 ln:l.length<=m
 k:KpL [] w0 w
 g:∀b∈G,w0.heap.size<=b
 r0:w0.heap.size<=r
section
variable {w0 w:World} {d r n:Nat} {db:List Nm} {m s:Nat} {c:Int} {st:bg} {G:List Nat} {l:List Bt} {u:Int} (h:jU w0 w d r n db m s c st G l u)
include h
theorem jU.kp0{w':World}(hk:KpL [] w w'):jU w0 w' d r n db m s c st G l u:=⟨h.sys.kp0 hk,h.ref.kp0 hk,h.tw,h.us,h.cm,h.ln,h.k.trans hk,h.g,h.r0⟩
theorem jU.sys'{w':World}{s':Nat}{c':Int}{st':bg}{G':List Nat}(h':dS [r] w' s' d n c' st' G')(hO:ci G w G' w'):aT G' w' r n db l u/\KpL [] w0 w'/\∀b∈G',w0.heap.size<=b :=
 ⟨h.ref.step hO.kp (fun _ h=>h) hO.new,h.k.more hO.kp fun b hb=>.inr (h.g b hb),fun b hb=>(hO.new b hb).elim (h.g b) fun hge=>Nat.le_trans h.k.size hge⟩
theorem jU.refs{w':World}(hk:KpL [r] w w'):dS [r] w' s d n c st G/\KpL [] w0 w':=⟨h.sys.step hk (by simp) fun b hb=>⟨.inl hb,Nat.lt_of_lt_of_le (h.sys.mlt b hb) hk.size⟩,h.k.more hk fun b hb=>.inr (by simp at hb;subst hb;exact h.r0)⟩
theorem jU.glt:∀b∈G,b<w.heap.size:=fun b hb=>(h.sys.own_lt b hb).1
theorem jU.un:0<=u/\u<=100000:=by rw[<-h.us];exact⟨h.sys.v.u0,h.sys.v.u1⟩
theorem zy(hdb:mn db=0)(hn:64<=n/\n<=1024):Calls Zz 23 #[pK s,pK r] w (aA (.bool true) w):=by
 have hv:=h.sys.v
 refine Bk ⟨(h.sys.db (N:=[]) (by simp)).mono ?_⟩
 rintro e w1 ⟨hk1,out,a1,m1,q1,rfl,hlen,hrel,hR⟩
 refine⟨_,_,_,_,rfl,hk1,⟨((h.kp0 hk1).sys.tokens (N:=[]) (by simp)).mono ?_⟩⟩
 rintro e w2 ⟨a2,m2,q2,rfl,hk2,hT⟩
 have hk02:=hk1.trans hk2
 refine⟨_,_,_,_,rfl,hk2,⟨((h.kp0 hk02).sys.room).mono ?_⟩⟩
 rintro e w3 ⟨rfl,hk3⟩
 have hk03:=hk02.trans hk3
 refine⟨_,_,rfl,hk3,fun _=>⟨fun _=>⟨fun _=>⟨(DN ((h.kp0 hk03).ref) h.tw.ok (h.kp0 hk03).glt).mono ?_⟩,fun hc=>absurd rfl hc⟩,fun hc=>absurd rfl hc⟩,fun hc=>absurd rfl hc⟩
 rintro e w4 ⟨hk4,out',a3,m3,q3,rfl,hl',hd,hR'⟩
 have hk04:=hk03.trans hk4
 have heq:=h.tw.sameDb hdb hv hrel hlen hl' hd
 refine⟨_,_,_,rfl,hk4,⟨(uC (((hR.kp0 hk2).kp0 hk3).kp0 hk4) hR').mono ?_⟩⟩
 rintro e w5 ⟨rfl,hk5⟩
 rw[decide_eq_true heq]
 have hk05:=hk04.trans hk5
 refine⟨_,rfl,hk5,fun _=>⟨(tW (h.kp0 hk05).ref (h.kp0 hk05).glt (by have:=h.tw.ok.ln;omega)).mono ?_⟩,fun hc=>(by cases hc)⟩
 rintro e w6 ⟨a4,m4,q4,rfl,hk6,hT'⟩
 have hk06:=hk05.trans hk6
 refine⟨_,_,_,rfl,hk6,⟨(ti ((((hT.kp0 hk3).kp0 hk4).kp0 hk5).kp0 hk6) hT').mono ?_⟩⟩
 rintro e w7 ⟨rfl,hk7⟩
 rw[decide_eq_true h.tw.toks]
 have hk07:=hk06.trans hk7
 have hu:=h.un
 have hus:=h.us
 refine⟨_,rfl,hk7,fun _=>⟨(Bu (h.kp0 hk07).ref (by omega) (by omega)).mono ?_⟩,fun hc=>(by cases hc)⟩
 rintro e w8 ⟨rfl,hk8⟩
 exact⟨_,rfl,hk8,by rw[decide_eq_true (by omega)],hk07.trans hk8⟩
theorem zT(hdb:mn db=0)(hn:64<=n/\n<=1024)(hm:m<=19){a:Ac}{ca:Option Addr}{cn cc:Nat}{pa:Option Addr}{pn pc:Nat}(hw:ar .u8 a.what)(hb:R B8 [] w0 a.b [.string a.b.token,iv a.b.stamp,.string a.b.array,.slice ca cn cc])(hp:R (au (tI .u8)) [] w0 a.picks [.slice pa pn pc])(hb20:a.b.changes.length<=20)(hp256:a.picks.length<=256):
 Calls Zz 22 #[pK d,pK s,pK r,.agg #[.int .u8 a.what,.string a.b.token,iv a.b.stamp,.string a.b.array,.slice ca cn cc,.slice pa pn pc]] w fun e w' =>
  ∃s' c' st' G' l' u',e=.returned (.pointer (some ⟨s',0,none⟩))/\KpL (r::G) w w'/\jU w0 w' d r n db (m+1) s' c' st' G' l' u':=by
 have hcl:c<900000:=by have:=h.cm;omega
 obtain⟨_,_,_,e,_,_,_,hc⟩:=hb.bt
 simp only[List.cons.injEq,Value.slice.injEq,true_and,and_true]at e
 obtain⟨rfl,rfl,rfl⟩:=e
 have hG:∀{k:Nat} {w':World} {X:List Nat},w.heap.size<=k->(∀b∈X,b<w.heap.size)->af k X:=fun hk hX=>⟨fun hm=>by have:=hX _ hm;omega⟩
 have hrl:=h.sys.mlt r (by simp)
 have hGr:∀{X:List Nat},(∀b∈X,b∈G)->∀b∈X,b∈r::G:=fun hX b hb=>List.mem_cons_of_mem _ (hX b hb)
 have hopen:∀(k1:Nat) (_:w.heap.size<=k1),kg w k1 a.what d pa pn pc s fun e w'=>∃s' c' st' G' l' u',e=.returned (.pointer (some ⟨s',0,none⟩))/\KpL (r::G) w w'/\jU w0 w' d r n db (m+1) s' c' st' G' l' u':=by
  intro k1 hk1
  unfold kg
  refine⟨fun vs w'=>vs=[]/\∃G',jU w0 w' d r n db m s c st G' l u/\ci G w G' w'/\k1∉G',fun w4 hw4 l4=>?_,?_⟩
  ·unfold sC
   have h4:=h.kp0 hw4
   refine⟨by omega,fun _=>⟨(h4.sys.crash (Mc:=[]) ((hp.fresh h4.k (N:=G) h4.g)) hp256).mono ?_⟩,fun _=>⟨rfl,G,h4,ci.of0 hw4,(hG (w':=w) hk1 h.glt).no⟩⟩
   rintro e w5 ⟨rfl,G5,hD5,hO5⟩
   have hO05:ci G w G5 w5:=(ci.of0 hw4).trans hO5
   have n5:k1∉G5:=fun hm'=>(hO5.new _ hm').elim (hG (w':=w) hk1 h.glt).no fun hge=>by omega
   refine⟨_,rfl,G,hO5.kp,hG (w':=w) hk1 h.glt,fun _=>⟨hD5.cmp.mono ?_⟩,fun hc=>absurd rfl hc⟩
   rintro e w6 ⟨rfl,hk6⟩
   refine⟨_,rfl,[],hk6,⟨by simp⟩,fun _=>⟨(hD5.kp0 hk6).restart.mono ?_⟩,fun hc=>absurd rfl hc⟩
   rintro e w7 ⟨rfl,G7,hS7,hO7⟩
   have hO57:ci G5 w5 G7 w7:=(ci.of0 hk6).trans hO7
   have hO07:=hO05.trans hO57
   obtain⟨q1,q2,q3⟩:=h.sys' hS7 hO07
   have s5:=hO5.kp.size
   have s6:=hk6.size
   exact⟨_,rfl,G5,hO7.kp,⟨n5⟩,fun hc=>absurd rfl hc,fun _=>⟨rfl,G7,⟨hS7,q1,h.tw,h.us,h.cm,h.ln,q2,q3,h.r0⟩,hO07,fun hm'=>(hO7.new _ hm').elim n5 fun hge=>by omega⟩⟩
  ·rintro w8 l8 ⟨_,G8,h8,hO8,n8⟩
   refine⟨(h8.sys.opn3 hcl).mono ?_⟩
   rintro e w9 ⟨s',st',G9,rfl,hL,hS9,hO9,hroom⟩
   obtain⟨q1,q2,q3⟩:=h8.sys' hS9 hO9
   refine⟨_,_,rfl,G8,hO9.kp,⟨n8⟩,⟨hroom.mono ?_⟩⟩
   rintro e w10 ⟨rfl,hk10⟩
   have hP:jU w0 w9 d r n db (m+1) s' (c+1) st' G9 l u:=⟨hS9,q1,h.tw.like h.sys.v hL,hL.us.trans h.us,by have:=h.cm;omega,by have:=h.ln;omega,q2,q3,h.r0⟩
   exact⟨_,_,rfl,hk10,fun _=>⟨fun hc=>absurd rfl hc,fun _=>⟨s',c+1,st',G9,l,u,rfl,(((hO8.trans hO9).kp.trans (hk10.mono (by simp))).mono (by intro x hx;simp[hx])),hP.kp0 hk10⟩⟩,fun hc=>absurd rfl hc⟩
 refine BD fun k1 hk1=>⟨by omega,fun _ w1 hw1 l1=>?_,fun _=>⟨fun _=>hopen k1 hk1,fun _=>⟨fun _=>hopen k1 hk1,fun _ w18 hw18 l18=>?_⟩⟩⟩
 ·have h1:=h.kp0 hw1
  refine⟨(sk h1.ref h.tw.ok h1.glt).mono ?_⟩
  rintro e w2 ⟨rfl,hk2,pss,hl1,hps,hR2⟩
  obtain⟨hS2,hk02⟩:=h1.refs hk2
  refine⟨rfl,[r],hk2,⟨by simp;omega⟩,⟨(hS2.cmp hcl).mono ?_⟩⟩
  rintro e w3 ⟨rfl,G3,hS3,hO3⟩
  refine⟨_,rfl,G,hO3.kp,hG (w':=w) hk1 h.glt,fun hc=>absurd rfl hc,fun _=>⟨s,c+1,_,G3,l,_,rfl,?_,hS3,hR2.step hO3.kp (fun _ h=>h) hO3.new,h.tw.lowS,h.tw.low hdb h.sys.v hl1 hps,by have:=h.cm;omega,by have:=h.ln;omega,hk02.more hO3.kp fun b hb=>.inr (h.g b hb),fun b hb=>(hO3.new b hb).elim (h.g b) fun hge=>Nat.le_trans hk02.size hge,h.r0⟩⟩
  exact((hw1.mono (by simp)).trans (hk2.mono (by simp))).trans (hO3.kp.mono (by intro x hx;simp[hx]))
 ·have h1:=h.kp0 hw18
  have hm19:l.length<=19:=by have:=h.ln;omega
  have hput:=h.tw.put hdb hm19 hb20 ((n - 2) / 2)
  refine⟨(h1.sys.put (b:=a.b) (Mc:=[]) (hc.fresh h1.k (N:=G) h1.g)).mono ?_⟩
  rintro e w19 ⟨rfl,G19,hS19,hO19⟩
  obtain⟨q1,q2,q3⟩:=h1.sys' hS19 hO19
  refine⟨_,_,rfl,G,hO19.kp,hG (w':=w) hk1 h.glt,⟨(Cb (M1:=[]) q1 (fun b hb=>(hS19.own_lt b hb).1) (by have:=h.tw.ok.f;omega) h.tw.ok.sh (by omega) (by omega) h.un (hb.fresh q2 (N:=[r]) (by simpa using h.r0)) hb20).mono ?_⟩⟩
  intro e w20 hh
  unfold nE at hh
  have hfin:∀{w':World},KpL [r] w19 w'->KpL (r::G) w w':=fun hk=>(((hw18.mono (by simp)).trans (hO19.kp.mono (by intro x hx;simp[hx]))).trans (hk.mono (by simp)))
  have hus:=h.us
  have stay:∀{b:Bool} {er:Int} {w':World},st.putS ((n - 2) / 2) a.b=(b,er,st)->KpL [] w19 w'->jU w0 w' d r n db (m+1) s c st G19 l u:=fun he hk=>by
   rw[he]at hS19
   exact jU.kp0 ⟨hS19,q1,h.tw,h.us,by have:=h.cm;omega,by have:=h.ln;omega,q2,q3,h.r0⟩ hk
  by_cases c1:rm db a.b≠0
  ·rw[if_pos c1]at hh hput
   obtain⟨rfl,hk⟩:=hh
   rw[hput]
   exact⟨_,_,rfl,[],hk,⟨by simp⟩,fun _=>⟨fun hc=>absurd rfl hc,fun _=>⟨s,c,st,G19,l,u,rfl,hfin (hk.mono (by simp)),stay hput hk⟩⟩,fun hc=>(by simp at hc)⟩
  rw[if_neg c1]at hh hput
  by_cases c2:a.b.token∈l.map (·.token)
  ·rw[if_pos c2]at hh hput
   obtain⟨rfl,hk⟩:=hh
   rw[hput]
   exact⟨_,_,rfl,[],hk,⟨by simp⟩,fun _=>⟨fun hc=>absurd rfl hc,fun _=>⟨s,c,st,G19,l,u,rfl,hfin (hk.mono (by simp)),stay hput hk⟩⟩,fun hc=>(by simp at hc)⟩
  rw[if_neg c2]at hh hput
  by_cases c3:(((n - 2) / 2:Nat):Int)<st.use+a.b.weight
  ·rw[if_pos (by omega)]at hh
   rw[if_pos c3]at hput
   obtain⟨rfl,hk⟩:=hh
   rw[hput]
   exact⟨_,_,rfl,[],hk,⟨by simp⟩,fun _=>⟨fun hc=>absurd rfl hc,fun _=>⟨s,c,st,G19,l,u,rfl,hfin (hk.mono (by simp)),stay hput hk⟩⟩,fun hc=>(by simp at hc)⟩
  ·rw[if_neg (by omega)]at hh
   rw[if_neg c3]at hput
   obtain⟨rfl,hk,hR⟩:=hh
   rw[hput]at hS19 ⊢
   refine⟨_,_,rfl,[r],hk,⟨by simp;omega⟩,fun _=>⟨fun hc=>absurd rfl hc,fun _=>⟨s,c,st.commit a.b,G19,l++[a.b],u+a.b.weight,rfl,hfin hk,?_⟩⟩,fun hc=>(by simp at hc)⟩
   refine⟨hS19.step hk (by simp) fun b hb=>⟨.inl hb,Nat.lt_of_lt_of_le (hS19.mlt b hb) hk.size⟩,hR,h.tw.snoc hdb hm19 hb20 (Classical.not_not.1 c1) c2,?_,by have:=h.cm;omega,by have:=h.ln;simp;omega,q2.more hk fun b hb=>.inr (by simp at hb;subst hb;exact h.r0),q3,h.r0⟩
   show st.use+a.b.weight=_
   rw[hus]
end
end Go.Vc
namespace Go.Vc
open Go Go.Proofs
theorem gPlays_ok{w:World}{sec:Int}{db:List Nm}{l:List Ac}{dba:Option Addr}{dbn dbc:Nat}{la:Option Addr}{ln lc:Nat}(hd:R (au gG) [] w db [.slice dba dbn dbc])(hl:R (au E8) [] w l [.slice la ln lc])(hs:0<=sec/\sec<=255):
 Calls Zz 4 #[.int .u8 sec,.slice dba dbn dbc,.slice la ln lc] w (aA (.bool true) w):=by
 have hmx:az=140737488355328:=rfl
 obtain⟨rfl,_,_⟩:=hl.sl_len
 have works:∀{w1:World},KpL [] w w1->ag Zz 9 #[] w1 fun e w2=>∃b,e=.returned (.bool b)/\KpL [] w1 w2/\aA (.bool true) w (.returned (.bool b)) w2:=fun hk=>⟨(xe _).mono (by rintro e w2 ⟨rfl,hk2⟩;exact⟨_,rfl,hk2,rfl,hk.trans hk2⟩)⟩
 refine zd ⟨(C0 hd).mono ?_⟩
 rintro e w1 ⟨b1,rfl,hk1,hfew⟩
 refine⟨_,rfl,hk1,fun hb=>?_,fun _=>works hk1⟩
 obtain⟨hf1,hf2⟩:=hfew (eP hb)
 refine⟨fun _=>works hk1,fun hle=>?_⟩
 refine⟨Ix w l.length fun i=>∀a∈l.take i,a.b.changes.length<=20/\a.picks.length<=256,oF l.length,Ix.start hk1 (by simp),?_⟩
 rintro n1 w3 ⟨i,hv,hi,hk3,hall⟩
 obtain rfl:=v1 hv
 constructor
 ·intro hlt
  have gi:i<l.length:=by omega
  have rd:∀{w':World},KpL [] w w'->∃ad ca cn cc pa pc,la=some ad/\ao w' ((ad.add (i*6)).add 1) [.string l[i].b.token,iv l[i].b.stamp,.string l[i].b.array,.slice ca cn cc]/\ao w' ((ad.add (i*6)).add 5) [.slice pa l[i].picks.length pc]/\R (au aC) [] w' l[i].b.changes [.slice ca cn cc]:=by
   intro w' hk
   obtain⟨ad,cs,rfl,hv1,_,_,_,hpt⟩:=(hl.kp0 hk).sl_get2 gi
   obtain⟨ca,cn,cc,pa,pn,pc,rfl,_,h1,h2⟩:=hv1.ac
   obtain⟨_,_,_,e,_,_,_,h3⟩:=h1.bt
   simp only[List.cons.injEq,Value.slice.injEq,true_and,and_true]at e
   obtain⟨rfl,rfl,rfl⟩:=e
   obtain⟨rfl,_,_⟩:=h2.sl_len
   exact⟨ad,ca,cn,cc,pa,pc,rfl,hpt 1 [_,_,_,_] rfl,hpt 5 [_] rfl,h3⟩
  obtain⟨ad,ca,cn,cc,_,_,rfl,m1,_,hc⟩:=rd hk3
  refine⟨ad,rfl,by omega,hlt,_,_,_,_,_,_,m1,⟨(uX hc).mono ?_⟩⟩
  rintro e w4 ⟨b3,rfl,hk4,hsh⟩
  have hk04:=hk3.trans hk4
  obtain⟨ad',_,_,_,pa,pc,e',_,m5,_⟩:=rd hk04
  simp only[Option.some.injEq]at e'
  subst e'
  refine⟨_,rfl,hk4,fun hb3=>⟨ad,rfl,by omega,hlt,_,_,_,m5,fun _=>works hk04,fun hpk=>Ix.next gi (by omega) hk04 fun a ha=>?_⟩,fun _=>works hk04⟩
  rw[<-List.take_append_getElem gi]at ha
  rcases List.mem_append.1 ha with ha|ha
  ·exact hall a ha
  ·simp at ha
   subst ha
   exact⟨hsh (eP hb3),by omega⟩
 intro hge
 rw[List.take_of_length_le (by omega)]at hall
 obtain⟨n,hn⟩:∃n:Nat,(64:Int)+sec=n:=⟨(64+sec).toNat,by omega⟩
 rw[hn]
 have hn1:64<=n/\n<=1024:=by omega
 refine⟨ae.2 (by omega),ae.2 (by omega),⟨(np (M:=[]) (by simp) (n:=n) (by omega) (by omega)).mono ?_⟩⟩
 rintro e w7 ⟨d,Fd,rfl,hk7,hD,hFd⟩
 have hk07:=hk3.trans hk7
 refine⟨_,_,rfl,hk7,fun hc=>absurd rfl hc,fun _=>⟨(uc hD (by omega)).mono ?_⟩⟩
 rintro e w8 ⟨rfl,hk8⟩
 have hk08:=hk07.trans hk8
 have hpl:(aO 0 db).length<=32:=by have:=pz (m:=8) (l:=db) (i:=0) hf2;omega
 refine⟨_,_,rfl,[],hk8,⟨(ER (hD.kp0 hk8) hn1.1 hn1.2 (hd.kp0 hk08) (by omega)).mono ?_⟩⟩
 intro e w9 hh
 have fin:∀{er:Int} {w9:World},KpL [] w8 w9->er≠0->(∀e' w',EQ [] w9 n db e' w'->e'=.returned (.tuple #[.pointer none,iv er]))->ag Zz 21 #[iv n,.slice dba dbn dbc] w9 fun e9 w10=>∃a6 n6,e9=.returned (.tuple #[.pointer a6,iv n6])/\KpL [] w9 w10/\(a6=none/\n6=er):=by
  intro er w9 hk9 hne hR
  refine⟨(nK (M:=[]) (by simp) ((hd.kp0 hk08).kp0 hk9) (by omega)).mono ?_⟩
  intro e' w' hr
  have:=hR e' w' hr
  subst this
  exact⟨_,_,rfl,hr.1,rfl,rfl⟩
 by_cases hz:mn db≠0∨db.length=0
 ·rw[if_pos hz]at hh
  obtain⟨rfl,hk9⟩:=hh
  refine⟨_,_,rfl,[],hk9,⟨(fin hk9 (er:=2) (by omega) fun e' w' hr=>by have:=hr.2;rw[if_pos hz]at this;exact this).calls.mono ?_⟩⟩
  rintro e w10 ⟨_,_,rfl,hk10,rfl,rfl⟩
  exact⟨_,_,rfl,hk10,fun _=>⟨fun _=>⟨fun hc=>(by simp at hc),fun _=>⟨fun _=>works ((hk08.trans hk9).trans hk10),fun hc=>absurd (by omega) hc⟩⟩,fun hc=>absurd rfl hc⟩,fun hc=>absurd rfl hc⟩
 rw[if_neg hz]at hh
 by_cases hf:(((n - 2) / 2:Nat):Int)<(aU db).use
 ·rw[if_pos hf]at hh
  obtain⟨rfl,hk9⟩:=hh
  refine⟨_,_,rfl,[],hk9,⟨(fin hk9 (er:=18) (by omega) fun e' w' hr=>by have:=hr.2;rw[if_neg hz,if_pos (by omega)]at this;exact this).calls.mono ?_⟩⟩
  rintro e w10 ⟨_,_,rfl,hk10,rfl,rfl⟩
  exact⟨_,_,rfl,hk10,fun _=>⟨fun _=>⟨fun hc=>(by simp at hc),fun _=>⟨fun _=>works ((hk08.trans hk9).trans hk10),fun hc=>absurd (by omega) hc⟩⟩,fun hc=>absurd rfl hc⟩,fun hc=>absurd rfl hc⟩
 rw[if_neg hf]at hh
 obtain⟨s,G,i,rfl,hS,hO⟩:=hh
 have hdb:mn db=0:=Classical.byContradiction fun h=>hz (.inl h)
 have hFd8:∀b∈Fd,w.heap.size<=b:=fun b hb=>Nat.le_trans hk3.size (hFd b hb)
 have hk09:KpL [] w w9:=hk08.more hO.kp fun b hb=>.inr (hFd8 b hb)
 have hGw:∀b∈G,w.heap.size<=b:=fun b hb=>(hO.new b hb).elim (hFd8 b) fun hge=>Nat.le_trans hk08.size hge
 refine⟨_,_,rfl,Fd,hO.kp,⟨(nK (M:=G) (fun b hb=>(hS.own_lt b hb).1) (hd.kp0 hk09) (by omega)).mono ?_⟩⟩
 rintro e w10 ⟨hk10,hr⟩
 rw[if_neg hz,if_neg (by omega)]at hr
 obtain⟨r,rfl,hr9,hR⟩:=hr
 have hP0:jU w w10 d r n db 0 s 1 { aU db with id:=i } G [] (aU db).use :=
  ⟨hS.step hk10 (by simp) fun b hb=>by simp at hb;subst hb;exact⟨.inr hr9,hR.ldU.2.2.1⟩,hR,eD.start hdb hf2 i,rfl,by omega,by simp,hk09.trans hk10,hGw,Nat.le_trans hk09.size hr9⟩
 refine⟨_,_,rfl,hk10,fun _=>⟨fun _=>⟨fun hc=>(by simp at hc),fun _=>⟨fun hc=>absurd rfl hc,fun _=>?_⟩⟩,fun hc=>absurd rfl hc⟩,fun hc=>absurd rfl hc⟩
 refine⟨fun vs w'=>∃(i s:Nat) (c:Int) (st:bg) (G:List Nat) (l':List Bt) (u:Int),vs=[pK s,iv (i:Int)]/\i<=l.length/\jU w w' d r n db i s c st G l' u,
  fun vs _=>match vs with|[_,.int _ i]=>l.length - i.toNat|_=>0,⟨0,s,1,_,G,[],_,rfl,by omega,hP0⟩,?_⟩
 rintro a7 n7 w12 ⟨j,s',c,st,G',l',u,hv,hj,hP⟩
 simp only[List.cons.injEq,Value.int.injEq,Value.pointer.injEq,true_and,and_true]at hv
 obtain⟨rfl,rfl⟩:=hv
 refine⟨fun hlt=>?_,fun _=>works hP.k⟩
 have gj:j<l.length:=by omega
 obtain⟨ad,cs,rfl,hv1,hld,_,_⟩:=(hl.kp0 hP.k).sl_get gj
 obtain⟨_,_,e0,hv0,hld0,_,_⟩:=hl.sl_get gj
 simp only[Option.some.injEq]at e0
 subst e0
 obtain⟨ca,cn,cc,pa,pn,pc,rfl,hw8,hb,hp⟩:=hv0.ac
 obtain⟨h20,h256⟩:=hall _ (List.getElem_mem gj)
 refine⟨ad,rfl,by omega,hlt,_,_,_,_,_,_,_,_,_,_,hld0.kp hP.k,⟨(zT hP hdb hn1 (by omega) hw8 hb hp h20 h256).mono ?_⟩⟩
 rintro e w13 ⟨s2,c2,st2,G2,l2,u2,rfl,hk13,hP2⟩
 refine⟨_,rfl,_,hk13,fun _=>⟨(zy hP2 hdb hn1).mono ?_⟩,fun hc=>(by cases hc)⟩
 rintro e w14 ⟨rfl,hk14⟩
 exact⟨_,rfl,hk14,fun hc=>(by cases hc),fun _=>⟨ae.2 (by omega),⟨j+1,s2,c2,st2,G2,l2,u2,rfl,by omega,hP2.kp0 hk14⟩,by dsimp only;omega⟩⟩
end Go.Vc
namespace Go.Vc
open Go Go.Proofs
def kd{α:Type}(t:TypeId)(e:Ty α):Prop:=Tryz.prog.cellsOf t=e.sz/\∀{H:Type} {enc:TypeId×Value->H} {w:World} {n:Nat} {cs:List Value} {x:DataW H×List MemPlace},
 DataW.trod enc Zz w 0 (fun _=>true) true n t cs=some x->(∀m∈x.1.weights Zz t,m<=reachBytes)->∃a:α,e.rel (fun b=>b<w.heap.size) w a cs
theorem kd.R{α:Type}{t:TypeId}{e:Ty α}(h:kd t e){H:Type}{enc:TypeId×Value->H}{w:World}{v:Value}{d:DataW H}{ps:List MemPlace}(hx:DataW.Trod enc Zz w 0 (fun _=>true) true t v d ps)(hw:∀m∈d.weights Zz t,m<=reachBytes):∃a:α,R e [] w a v.cells.toList:=by
 obtain⟨n,hn⟩:=hx
 obtain⟨a,ha⟩:=h.2 hn hw
 exact⟨a,e.mono ha fun b hb=>⟨⟨hb,by simp⟩,rfl⟩⟩
theorem qf{t:TypeId}{k:IntKind}(ht:Tryz.prog.underlying t=some (.int k))(hc:Tryz.prog.cellsOf t=1):kd t (tI k):=by
 refine⟨hc,fun hx _=>?_⟩
 obtain⟨n,rfl,_,hw⟩:=DataW.trod_int ht hx
 simp only[Lit.wf,Bool.and_eq_true,decide_eq_true_eq]at hw
 exact⟨n,rfl,⟨hw.1,hw.2⟩⟩
def Ek:Ty ByteArray where
 sz:=1
 rel:=fun _ _ x cs=>cs=[.string x]/\x.size<=az
 len:=by rintro _ _ _ _ ⟨rfl,_⟩;rfl
 one:=by rintro _ _ _ _ ⟨rfl,_⟩ v hv;simp at hv;subst hv;rfl
 mono:=fun h _=>h
theorem uO{t:TypeId}(ht:Tryz.prog.underlying t=some .string)(hc:Tryz.prog.cellsOf t=1):kd t Ek:=by
 refine⟨hc,fun hx hw=>?_⟩
 obtain⟨s,rfl,rfl,hs⟩:=DataW.trod_string ht hx
 refine⟨s,rfl,?_⟩
 have:=hw s.data.toList.length (by simp[DataW.weights])
 have e:s.data.toList.length=s.size:=rfl
 unfold reachBytes at this
 have:az=140737488355328:=rfl
 omega
theorem mA{α:Type}{p:Nat->α->Prop}:∀{n:Nat},(∀i,i<n->∃y,p i y)->∃xs:List α,xs.length=n/\∀i y,xs[i]?=some y->p i y
 |0,_=>⟨[],rfl,by simp⟩
 |n+1,h=>by
  obtain⟨xs,h1,h2⟩:=mA (n:=n) fun i hi=>h i (by omega)
  obtain⟨y,hy⟩:=h n (by omega)
  refine⟨xs++[y],by simp[h1],fun i z hz=>?_⟩
  by_cases hi:i<n
  ·rw[List.getElem?_append_left (by omega)]at hz
   exact h2 i z hz
  ·rw[List.getElem?_append_right (by omega)]at hz
   have hi':i=n:=by
    have:=(List.getElem?_eq_some_iff.1 hz).1
    simp at this
    omega
   subst hi'
   rw[h1,Nat.sub_self]at hz
   simp at hz
   subst hz
   exact hy
theorem rE{w:World}{a:Addr}{v:Value}(h:w.cell? a=some v):∃c T fz,a.spot=none/\w.heap[a.block]?=some (.cells c T fz)/\c[a.off]?=some v:=by
 unfold World.cell? at h
 split at h
 ·rename_i c T fz hc
  split at h
  ·cases h
  ·rename_i hs
   exact⟨c,T,fz,by simpa using hs,hc,h⟩
 ·cases h
theorem iI{H:Type}{e:TypeId}:∀{l:List (DataW H)} {d:DataW H},d∈l->∀m∈d.weights Zz e,m∈DataW.weightsAll Zz e l
 |a::r,d,hd,m,hm=>by
  rw[DataW.weightsAll,List.mem_append]
  rcases List.mem_cons.1 hd with rfl|hd
  ·exact .inl hm
  ·exact .inr (iI hd m hm)
theorem dt{α:Type}{t e:TypeId}{te:Ty α}(ht:Tryz.prog.underlying t=some (.slice e))(hc:Tryz.prog.cellsOf t=1)(h:kd e te)(h1:1<=te.sz)(hby:1<=Tryz.prog.bytesOf e):kd t (au te):=by
 refine⟨hc,fun {H enc w n cs x} hx hw=>?_⟩
 rcases Deep.open_slice ht hx with ⟨rfl,_⟩|⟨a,len,cap,m,n',D,Pl,rfl,hb,hl,hm,hmm,rfl,hall⟩
 ·exact⟨[],none,0,rfl,Nat.le_refl _,by simp,fun hc=>absurd rfl hc⟩
 ·have hmc:m=cap:=by simpa using hmm
  obtain⟨xs,hlen,hxs⟩:=mA (n:=len) (p:=fun i (y:α)=>∃cs',w.cells? 0 (a.add (i*Tryz.prog.cellsOf e)) (Tryz.prog.cellsOf e)=some cs'/\te.rel (fun b=>b<w.heap.size) w y cs') fun i hi=>by
   obtain⟨cs',g1,g2⟩:=hall i (by omega)
   obtain⟨y,hy⟩:=h.2 g2 fun m' hm'=>hw m' (by
    simp only[DataW.weights,ht,List.mem_cons,List.mem_append]
    exact .inr (.inl (iI (List.mem_map.2 ⟨i,by simpa using hi,rfl⟩) m' hm')))
   exact⟨y,cs',g1,hy⟩
  subst hlen
  refine⟨xs,some a,cap,rfl,hl,?_,fun hne=>?_⟩
  ·have:=hw _ (by simp only[DataW.weights,ht];exact List.mem_cons_self ..)
   simp only[List.length_map,List.length_range]at this
   have h3:xs.length*1<=(xs.length+(m - xs.length))*Zz.bytesOf e:=Nat.mul_le_mul (by omega) hby
   unfold reachBytes at this
   have:az=140737488355328:=rfl
   omega
  ·have h0:0<xs.length:=by
    cases xs with
    |nil=>exact absurd rfl hne
    |cons _ _=>simp
   obtain⟨cs0,g1,g2⟩:=hxs 0 xs[0] (List.getElem?_eq_getElem h0)
   rw[h.1]at g1
   obtain⟨_,hl0,hc0⟩:=World.cells?_some g1
   have g3:=hc0 0 (by omega)
   rw[List.getElem?_eq_getElem (by omega),Nat.zero_mul]at g3
   obtain⟨arr,T,fz,e1,e2,e3⟩:=rE g3
   obtain⟨b,off,sp⟩:=a
   have esp:sp=none:=by
    cases sp with
    |none=>rfl
    |some s=>simp[Addr.add]at e1
   subst esp
   rw[al,al]at e2
   dsimp only at e2
   refine⟨b,off,arr,T,fz,rfl,ab e2,e2,fun i y hy=>?_⟩
   obtain⟨cs',q1,q2⟩:=hxs i y hy
   rw[h.1]at q1
   obtain⟨_,hl',hc'⟩:=World.cells?_some q1
   refine⟨cs',q2,fun j v hv=>?_⟩
   have hj:=(List.getElem?_eq_some_iff.1 hv).1
   have q3:=hc' j (by omega)
   rw[hv,al,al]at q3
   obtain⟨arr',T',fz',_,e5,e6⟩:=rE q3
   dsimp only at e5 e6
   rw[e2]at e5
   simp only[Option.some.injEq,Obj.cells.injEq]at e5
   obtain⟨rfl,_,_⟩:=e5
   rw[Array.getElem?_toList]
   exact e6
theorem aL{H:Type}{enc:TypeId×Value->H}{w:World}{n:Nat}{t:TypeId}{fs:Array Field}{cs:List Value}{x:DataW H×List MemPlace}(ht:Tryz.prog.underlying t=some (.struct fs))(hx:DataW.trod enc Zz w 0 (fun _=>true) true n t cs=some x){α:Type}{e:Ty α}{f:Field}(i:Nat)(hf:fs[i]?=some f)(h:kd f.type e)(hw:∀m∈x.1.weights Zz t,m<=reachBytes):
 ∃a:α,e.rel (fun b=>b<w.heap.size) w a ((cs.drop f.offset).take e.sz):=by
 obtain⟨xs,m,_,rfl,_,hlen,hall⟩:=DataW.trod_struct ht hx
 have g:=hall i f hf
 have hi:i<fs.size:=(Array.getElem?_eq_some_iff.1 hf).1
 have hi':i<xs.length:=by omega
 rw[List.getElem?_eq_getElem hi',h.1]at g
 refine h.2 g fun m' hm'=>hw m' ?_
 simp only[DataW.weights,ht]
 exact DataW.weights_mem_each (j:=i) (by rw[List.getElem?_map,Array.getElem?_toList,hf];rfl) (by rw[List.getElem?_map,List.getElem?_eq_getElem hi'];rfl) m' hm'
theorem cf{H:Type}{enc:TypeId×Value->H}{w:World}{n:Nat}{t:TypeId}{fs:Array Field}{cs:List Value}{x:DataW H×List MemPlace}(ht:Tryz.prog.underlying t=some (.struct fs))(hx:DataW.trod enc Zz w 0 (fun _=>true) true n t cs=some x):cs.length=Tryz.prog.cellsOf t:=by
 obtain⟨xs,m,_,_,h,_⟩:=DataW.trod_struct ht hx
 exact h
theorem opn3:kd 3 (tI .i64):=qf Tryz.underlying3 (by kernel_rfl)
theorem DQ:kd 2 (tI .i64):=qf Tryz.underlying2 (by kernel_rfl)
theorem ym:kd 9 Ek:=uO Tryz.underlying9 (by kernel_rfl)
theorem EX:kd 78 (au (tI .i64)):=dt Tryz.underlying78 (by kernel_rfl) opn3 (by decide) (by decide +kernel)
theorem DK:kd 153 bY:=by
 refine⟨by kernel_rfl,fun {H enc w n cs x} hx hw=>?_⟩
 have hl:=cf Tryz.underlying153 hx
 have hc:Tryz.prog.cellsOf 153=3:=by kernel_rfl
 rw[hc]at hl
 obtain⟨a,ha⟩:=aL Tryz.underlying153 hx 0 rfl ym hw
 obtain⟨b,hb⟩:=aL Tryz.underlying153 hx 1 rfl opn3 hw
 obtain⟨c,hc⟩:=aL Tryz.underlying153 hx 2 rfl opn3 hw
 match cs,hl,ha,hb,hc with
 |[c0,c1,c2],_,⟨h1,h2⟩,⟨h3,h4⟩,⟨h5,h6⟩ =>
  simp[Ek,tI]at h1 h3 h5
  subst h1 h3 h5
  exact⟨⟨a,b,c⟩,rfl,h2,h4,h6⟩
theorem DI:kd 156 bw:=by
 refine⟨by kernel_rfl,fun {H enc w n cs x} hx hw=>?_⟩
 have hl:=cf Tryz.underlying156 hx
 have hc:Tryz.prog.cellsOf 156=2:=by kernel_rfl
 rw[hc]at hl
 obtain⟨a,ha⟩:=aL Tryz.underlying156 hx 0 rfl ym hw
 obtain⟨b,hb⟩:=aL Tryz.underlying156 hx 1 rfl opn3 hw
 match cs,hl,ha,hb with
 |[c0,c1],_,⟨h1,h2⟩,⟨h3,h4⟩ =>
  simp[Ek,tI]at h1 h3
  subst h1 h3
  exact⟨⟨a,b⟩,rfl,h2,h4⟩
theorem DM:kd 161 cv:=by
 refine⟨by kernel_rfl,fun {H enc w n cs x} hx hw=>?_⟩
 have hl:=cf Tryz.underlying161 hx
 have hc:Tryz.prog.cellsOf 161=4:=by kernel_rfl
 rw[hc]at hl
 obtain⟨a,ha⟩:=aL Tryz.underlying161 hx 0 rfl opn3 hw
 obtain⟨b,hb⟩:=aL Tryz.underlying161 hx 1 rfl DQ hw
 obtain⟨c,hc⟩:=aL Tryz.underlying161 hx 2 rfl DQ hw
 obtain⟨d,hd⟩:=aL Tryz.underlying161 hx 3 rfl ym hw
 match cs,hl,ha,hb,hc,hd with
 |[c0,c1,c2,c3],_,⟨h1,h2⟩,⟨h3,h4⟩,⟨h5,h6⟩,⟨h7,h8⟩ =>
  simp[Ek,tI]at h1 h3 h5 h7
  subst h1 h3 h5 h7
  exact⟨⟨a,b,c,d⟩,rfl,h2,h4,h6,h8⟩
theorem EC:kd 79 (au cv):=dt Tryz.underlying79 (by kernel_rfl) DM (by decide) (by decide +kernel)
theorem sL{t:TypeId}(ht:Tryz.prog.underlying t=some (.struct #[⟨"At",78,0,false, "", "",0⟩,⟨"Vals",79,1,false, "", "",24⟩]))(hc:Tryz.prog.cellsOf t=2):kd t aC:=by
 refine⟨hc,fun {H enc w n cs x} hx hw=>?_⟩
 have hl:=cf ht hx
 rw[hc]at hl
 obtain⟨a,ha⟩:=aL ht hx 0 rfl EX hw
 obtain⟨b,hb⟩:=aL ht hx 1 rfl EC hw
 match cs,hl,ha,hb with
 |[c0,c1],_,h1,h2=>exact⟨⟨a,b⟩,[c0],[c1],rfl,h1,h2⟩
theorem DC:kd 147 aC:=sL Tryz.underlying147 (by kernel_rfl)
theorem E4:kd 81 aC:=sL Tryz.underlying81 (by kernel_rfl)
theorem Es:kd 54 (au bY):=dt Tryz.underlying54 (by kernel_rfl) DK (by decide) (by decide +kernel)
theorem EN:kd 55 (au bw):=dt Tryz.underlying55 (by kernel_rfl) DI (by decide) (by decide +kernel)
theorem EJ:kd 56 (au aC):=dt Tryz.underlying56 (by kernel_rfl) DC (by decide) (by decide +kernel)
theorem ET:kd 30 (au aC):=dt Tryz.underlying30 (by kernel_rfl) E4 (by decide) (by decide +kernel)
theorem EA:kd 58 uY:=by
 refine⟨by kernel_rfl,fun {H enc w n cs x} hx hw=>?_⟩
 have hl:=cf Tryz.underlying58 hx
 have hc:Tryz.prog.cellsOf 58=3:=by kernel_rfl
 rw[hc]at hl
 obtain⟨a,ha⟩:=aL Tryz.underlying58 hx 0 rfl Es hw
 obtain⟨b,hb⟩:=aL Tryz.underlying58 hx 1 rfl EN hw
 obtain⟨c,hc⟩:=aL Tryz.underlying58 hx 2 rfl EJ hw
 match cs,hl,ha,hb,hc with
 |[c0,c1,c2],_,h1,h2,h3=>exact⟨⟨a,b,c⟩,[c0],[c1,c2],rfl,h1,[c1],[c2],rfl,h2,h3⟩
theorem ED:kd 60 gG:=by
 refine⟨by kernel_rfl,fun {H enc w n cs x} hx hw=>?_⟩
 have hl:=cf Tryz.underlying60 hx
 have hc:Tryz.prog.cellsOf 60=4:=by kernel_rfl
 rw[hc]at hl
 obtain⟨a,ha⟩:=aL Tryz.underlying60 hx 0 rfl ym hw
 obtain⟨b,hb⟩:=aL Tryz.underlying60 hx 1 rfl EA hw
 match cs,hl,ha,hb with
 |[c0,c1,c2,c3],_,h1,h2=>exact⟨⟨a,b⟩,[c0],[c1,c2,c3],rfl,⟨h1.1,by have:=h1.2;have:az=140737488355328:=rfl;dsimp only;omega⟩,h2⟩
theorem opn23:kd 23 (au gG):=dt Tryz.underlying23 (by kernel_rfl) ED (by decide) (by decide +kernel)
end Go.Vc
namespace Go.Vc
open Go Go.Proofs
theorem E2:kd 32 B8:=by
 refine⟨by kernel_rfl,fun {H enc w n cs x} hx hw=>?_⟩
 have hl:=cf Tryz.underlying32 hx
 have hc:Tryz.prog.cellsOf 32=4:=by kernel_rfl
 rw[hc]at hl
 obtain⟨a,ha⟩:=aL Tryz.underlying32 hx 0 rfl ym hw
 obtain⟨b,hb⟩:=aL Tryz.underlying32 hx 1 rfl DQ hw
 obtain⟨c,hc⟩:=aL Tryz.underlying32 hx 2 rfl ym hw
 obtain⟨d,hd⟩:=aL Tryz.underlying32 hx 3 rfl ET hw
 have hmx:az=140737488355328:=rfl
 match cs,hl,ha,hb,hc,hd with
 |[c0,c1,c2,c3],_,⟨h1,h2⟩,⟨h3,h4⟩,⟨h5,h6⟩,h7 =>
  simp[Ek,tI]at h1 h3 h5
  subst h1 h3 h5
  exact⟨⟨a,b,c,d⟩,[_,_],[_,_],rfl,⟨[_],[_],rfl,⟨rfl,by dsimp only;omega⟩,⟨rfl,h4⟩⟩,⟨[_],[_],rfl,⟨rfl,by dsimp only;omega⟩,h7⟩⟩
end Go.Vc
namespace Go.Vc
open Go Go.Proofs
theorem Eq:kd 5 (tI .u8):=qf Tryz.underlying5 (by kernel_rfl)
theorem EG:kd 33 (au (tI .u8)):=dt Tryz.underlying33 (by kernel_rfl) Eq (by decide) (by decide +kernel)
end Go.Vc
namespace Go.Vc
open Go Go.Proofs
theorem Er:kd 66 E8:=by
 refine⟨by kernel_rfl,fun {H enc w n cs x} hx hw=>?_⟩
 have hl:=cf Tryz.underlying66 hx
 have hc:Tryz.prog.cellsOf 66=6:=by kernel_rfl
 rw[hc]at hl
 obtain⟨a,ha⟩:=aL Tryz.underlying66 hx 0 rfl Eq hw
 obtain⟨b,hb⟩:=aL Tryz.underlying66 hx 1 rfl E2 hw
 obtain⟨c,hc⟩:=aL Tryz.underlying66 hx 2 rfl EG hw
 match cs,hl,ha,hb,hc with
 |[c0,c1,c2,c3,c4,c5],_,h1,h2,h3=>exact⟨⟨a,b,c⟩,[c0],[c1,c2,c3,c4,c5],rfl,h1,[c1,c2,c3,c4],[c5],rfl,h2,h3⟩
theorem opn63:kd 63 (au E8):=dt Tryz.underlying63 (by kernel_rfl) Er (by decide) (by decide +kernel)
end Go.Vc
namespace Go.Proofs.YtlmpniofhabmiaaGreat.ingestPlays
open Go.ChangeShapes Go.WideShapes Go.ChangeAt Go.RowKit
theorem own:ownKnob Tryz.prog.godebug=none:=by kernel_rfl
theorem laidOut:laidOutB Tryz.prog=true:=by kernel_rfl
theorem below{w w':World}(h:Go.Vc.KpL [] w w'):Below w.heap.size w w':=⟨h.os,h.tape,h.output,h.size,fun k hk=>h.blk k hk (by simp)⟩
set_option maxRecDepth 100000 in
theorem byte{H:Type}{enc:TypeId×Value->H}{W:World}{base:Nat}{v:Value}{d:DataW H}{ps:List MemPlace}(hval:Value.okWide Tryz.prog W .any base 5 v)(h:DataW.Trod enc Tryz.prog W 0 (fun _=>true) true 5 v d ps):
 ∃a:Int,v=.int .u8 a/\0<=a/\a<=255:=by
 obtain⟨a,rfl⟩:=okWide_int Tryz.underlying5 hval
 obtain⟨n,hn⟩:=h
 obtain⟨b,e0,_,hw⟩:=DataW.trod_int Tryz.underlying5 hn
 simp[Value.cells]at e0
 subst e0
 simp only[Lit.wf,Bool.and_eq_true,decide_eq_true_eq]at hw
 have h1:IntKind.u8.min=0:=by decide
 have h2:IntKind.u8.max=255:=by decide
 rw[h1,h2]at hw
 exact⟨_,rfl,hw.1,hw.2⟩
set_option maxRecDepth 100000 in
theorem lifted(os:Os)(started:os.Started)(H:Type)(enc:TypeId×Value->H):
 ReturnsInHanded {} Tryz.checked os 4 .any (Rows.ingestPlaysSpec.pre6 enc Tryz.prog Tryz.f4 Rows.ingestPlaysRow.domain false) (Rows.ingestPlaysSpec.post enc Tryz.prog Tryz.f4 false true false false):=by
 refine returnsInHanded_of_change_sized (C:=Tryz.checked) own started (by kernel_rfl) Tryz.func4
  (ChangeSpec.witness6 (enc:=enc) (C:=Tryz.checked) false ⟨#[],#[.int .u8 0,.slice none 0 0,.slice none 0 0],[]⟩ 8 (by kernel_rfl) (by kernel_rfl) (by kernel_rfl) (by kernel_rfl)) ?_
 intro W base args ds gs before hval0 hW hcnd hsz _
 have hval:∀(j:Nat) t v,Tryz.f4.params[j]?=some t->args[j]?=some v->Value.okWide Tryz.prog W .any base t v:=hval0
 have hW':=hW
 obtain⟨p,q,hA0,hV,rfl,hfz,hnd⟩:=hW
 have hA:DataW.TrodAll enc Tryz.prog W 0 (fun _=>true) true Tryz.f4.params.toList args.toList ds p:=hA0
 rw[Tryz.params4]at hA hval hsz
 obtain⟨v0,vs0,d0,ds0,p0,q0,hargs,rfl,rfl,h0,r0⟩:=trodAll_cons hA
 obtain⟨v1,vs1,d1,ds1,p1,q1,rfl,rfl,rfl,h1,r1⟩:=trodAll_cons r0
 obtain⟨v2,vs2,d2,ds2,p2,q2,rfl,rfl,rfl,h2,r2⟩:=trodAll_cons r1
 obtain⟨rfl,rfl,rfl⟩:=trodAll_nil r2
 obtain rfl:args=#[v0,v1,v2]:=by cases args;simp_all
 obtain⟨rfl,rfl⟩:=trodVars_none hV
 have wt:∀(j:Nat) (t:TypeId) (d:DataW H),([5,23,63]:List TypeId)[j]?=some t->[d0,d1,d2][j]?=some d->∀m∈d.weights Tryz.prog t,m<=reachBytes:=fun j t d ht hd m hm=>by
  have:=List.all_eq_true.1 hsz m (DataW.weights_mem_each (j:=j) (by rw[List.getElem?_append_left (by have:=(List.getElem?_eq_some_iff.1 ht).1;simpa using this)];exact ht) (by rw[List.getElem?_append_left (by have:=(List.getElem?_eq_some_iff.1 hd).1;simpa using this)];exact hd) m hm)
  simpa using this
 obtain⟨sec,rfl,hs⟩:=byte (hval 0 5 v0 rfl rfl) h0
 obtain⟨a0,n0,c0,rfl⟩:=okWide_slice Tryz.underlying23 (hval 1 23 v1 rfl rfl)
 obtain⟨a1,n1,c1,rfl⟩:=okWide_slice Tryz.underlying63 (hval 2 63 v2 rfl rfl)
 have lt:∀{t:TypeId} {v:Value} {d:DataW H} {ps:List MemPlace},DataW.Trod enc Tryz.prog W 0 (fun _=>true) true t v d ps->∀x∈ps,x.block<W.heap.size:=fun⟨m,hm⟩=>DataW.trod_lt m _ _ _ hm
 obtain⟨db,hdb⟩:=Go.Vc.opn23.R h1 (wt 1 23 d1 rfl rfl)
 obtain⟨l,hl⟩:=Go.Vc.opn63.R h2 (wt 2 63 d2 rfl rfl)
 clear hA0 hval0
 refine(Go.Vc.gPlays_ok hdb hl hs).mono fun e W' ⟨he,hk⟩=>?_
 subst he
 have bel:=below hk
 exact⟨_,rfl,_,_,_,[],_,[],hW',trodAll_mk1 (shut_bool Tryz.underlying4 _),(trodAll_cons_mk (Below.trod laidOut (by kernel_rfl) (of_decide_eq_true (by kernel_rfl)) h0 bel (lt h0)) (trodAll_cons_mk (Below.trod laidOut (by kernel_rfl) (of_decide_eq_true (by kernel_rfl)) h1 bel (lt h1)) (trodAll_cons_mk (Below.trod laidOut (by kernel_rfl) (of_decide_eq_true (by kernel_rfl)) h2 bel (lt h2)) trodAll_mk0))),rfl,bel.frame _,fun h=>by cases h⟩
theorem over:Rows.ingestPlaysRow.holds Tryz.pinned (OpenSpec.ofChange Rows.ingestPlaysSpec) :=
 OpenClaim.holds_of_wide 4 Tryz.f4 rfl rfl rfl rfl rfl rfl rfl ⟨rfl,rfl,rfl,rfl,rfl⟩ rfl rfl rfl rfl rfl (by kernel_rfl) Tryz.func4 (by kernel_rfl)
  (of_decide_eq_true (by kernel_rfl)) (by unfold Func.isWrapper;rw[if_neg (of_decide_eq_false (by kernel_rfl))];exact⟨rfl,rfl⟩)
  (fun os started H enc _=>lifted os started H enc)
theorem proved:Rows.IngestPlaysSaid:=over
#print axioms proved
end Go.Proofs.YtlmpniofhabmiaaGreat.ingestPlays
