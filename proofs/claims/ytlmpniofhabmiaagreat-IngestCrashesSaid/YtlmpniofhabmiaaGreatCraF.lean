/- 'tesseractlaw10.IngestCrashes' returns true whatever its input is, and each of its arguments reads afterwards as it read before. Conditions: none. -/
import Derived.Test.YtlmpniofhabmiaaGreatCraE
import Derived.Below
import Derived.Deep.Slices
import Derived.OpenShut
import Derived.SizedLaws
import Derived.ChangeOld
import Derived.ProofKit
import Derived.ShutString
import Derived.Test.YtlmpniofhabmiaaGreatRows
import Derived.WalkKit
set_option linter.unusedVariables false
set_option linter.unusedSimpArgs false
set_option linter.unusedSectionVars false
namespace Go.Vc
open Go Go.Proofs
structure Fx where
 arrs:List Nm
 P0:List (Pl×Sta)
 n:Nat
def SysQ(X:Fx)(M:List Nat)(w:World)(s d:Nat)(z:Bool)(m U:Int)(B:List Bt)(G:List Nat):Prop :=
 ∃l num nxt k F Fd st,SysAt M w s l d num nxt st k F Fd∧Lq k num nxt st∧Aft X.arrs X.P0 B st∧st.use≤U∧U≤(halfN X.n:Nat)∧k.n=X.n∧num≤m∧k.st≤m∧(z=true→k.fuse = -1)∧G=F++Fd
def DskQ(X:Fx)(M:List Nat)(w:World)(d:Nat)(on z:Bool)(m U:Int)(B:List Bt)(G:List Nat):Prop :=
 ∃k,DkAt M w d k G∧k.down = !on∧k.pend=[]∧k.dur=k.now∧k.now.length=64*k.n∧Hold k.now k.n X.arrs X.P0 B m U∧U≤(halfN X.n:Nat)∧k.n=X.n∧10≤k.n∧k.n≤1024∧0≤k.st∧k.st≤m∧(z=true→k.fuse = -1)
section
variable {X:Fx} {M G:List Nat} {w:World} {s d:Nat} {z:Bool} {m U:Int} {B:List Bt}
theorem SysQ.kp0(h:SysQ X M w s d z m U B G){w':World}(kp:KpL [] w w'):SysQ X M w' s d z m U B G:=by
 obtain⟨l,num,nxt,k,F,Fd,st,hS,r⟩:=h
 exact⟨l,num,nxt,k,F,Fd,st,hS.kp0 kp,r⟩
theorem SysQ.step(h:SysQ X M w s d z m U B G){M' N:List Nat}{w':World}(kp:KpL N w w')(hs:∀b∈N,b∈M)(hn:∀b∈M',(b∈M∨w.heap.size≤b)∧b<w'.heap.size):SysQ X M' w' s d z m U B G:=by
 obtain⟨l,num,nxt,k,F,Fd,st,hS,r⟩:=h
 exact⟨l,num,nxt,k,F,Fd,st,hS.step kp hs hn,r⟩
theorem SysQ.mlt(h:SysQ X M w s d z m U B G):∀b∈M,b<w.heap.size:=by
 obtain⟨l,num,nxt,k,F,Fd,st,hS,_⟩:=h
 exact hS.mlt
theorem SysQ.own_lt(h:SysQ X M w s d z m U B G):∀b∈G,b<w.heap.size∧b∉M:=by
 obtain⟨l,num,nxt,k,F,Fd,st,hS,_,_,_,_,_,_,_,_,rfl⟩:=h
 exact hS.own_lt
theorem SysQ.up(h:SysQ X M w s d z m U B G){m' U':Int}(hm:m≤m')(hU:U≤U')(hU2:U'≤(halfN X.n:Nat)):SysQ X M w s d z m' U' B G:=by
 obtain⟨l,num,nxt,k,F,Fd,st,hS,hL,hA,hu,hh,hn,h1,h2,h3,h4⟩:=h
 exact⟨l,num,nxt,k,F,Fd,st,hS,hL,hA,by omega,hU2,hn,by omega,by omega,h3,h4⟩
theorem SysQ.aside(h:SysQ X M w s d z m U B G){G1 G1' M0:List Nat}{w':World}(ho:Own G1 w G1' w')(hM:M=G1++M0)(hlt:∀b∈G1',b<w'.heap.size):SysQ X (G1'++M0) w' s d z m U B G:=by
 subst hM
 refine h.step ho.kp (fun b hb=>by simp[hb]) fun b hb=>?_
 rcases List.mem_append.1 hb with hb|hb
 ·exact⟨(ho.new b hb).imp (fun h=>by simp[h]) id,hlt b hb⟩
 ·exact⟨.inl (by simp[hb]),by have:=h.mlt b (by simp[hb]);have:=ho.kp.size;omega⟩
theorem DskQ.kp0{on:Bool}(h:DskQ X M w d on z m U B G){w':World}(kp:KpL [] w w'):DskQ X M w' d on z m U B G:=by
 obtain⟨k,hD,r⟩:=h
 exact⟨k,hD.kp0 kp,r⟩
theorem DskQ.own_lt{on:Bool}(h:DskQ X M w d on z m U B G):∀b∈G,b<w.heap.size∧b∉M:=by
 obtain⟨k,hD,_⟩:=h
 exact hD.own_lt
def Taken(B:List Bt)(b:Bt)(ok:Bool):List Bt:=if ok=true then B++[b] else B
def ansE(arrs:List Nm)(B:List Bt)(b:Bt):Bool×Int :=
 if ({ id:=0,arrays:=arrs,places:=[],batches:=[],use:=0 }:Sto).checkE b≠0 then (false,({ id:=0,arrays:=arrs,places:=[],batches:=[],use:=0 }:Sto).checkE b) else if B.any (fun x=>decide (x.token=b.token))=true then (false,0) else (true,0)
theorem putS_ans{st:Sto}(hA:Aft X.arrs X.P0 B st){b:Bt}{half:Nat}(hu:st.use+b.weight≤half):(st.putS half b).1=(ansE X.arrs B b).1∧(st.putS half b).2.1=(ansE X.arrs B b).2∧Aft X.arrs X.P0 (Taken B b (ansE X.arrs B b).1) (st.putS half b).2.2∧(st.putS half b).2.2.use≤st.use+b.weight:=by
 have hw:0≤b.weight:=by unfold Bt.weight;omega
 have hck:st.checkE b=({ id:=0,arrays:=X.arrs,places:=[],batches:=[],use:=0 }:Sto).checkE b:=by unfold Sto.checkE;rw[hA.arr]
 have han:st.batches.any (fun x=>decide (x.token=b.token))=B.any (fun x=>decide (x.token=b.token)):=by rw[hA.bat,List.any_map];rfl
 unfold Sto.putS ansE Taken
 rw[hck,han]
 by_cases h1:({ id:=0,arrays:=X.arrs,places:=[],batches:=[],use:=0 }:Sto).checkE b≠0
 ·rw[if_pos h1,if_pos h1]
  exact⟨rfl,rfl,hA,by dsimp only;omega⟩
 rw[if_neg h1,if_neg h1]
 by_cases h2:B.any (fun x=>decide (x.token=b.token))=true
 ·rw[if_pos h2,if_pos h2]
  exact⟨rfl,rfl,hA,by dsimp only;omega⟩
 rw[if_neg h2,if_neg h2,if_neg (by omega)]
 refine⟨rfl,rfl,?_,Int.le_refl _⟩
 rw[←hck]at h1
 have hd:=(checkE_ok (Classical.not_not.1 h1)).dup
 rw[hA.arr]at hd
 exact hA.commit (dup_nd hd).1 fun x hx he=>h2 (List.any_eq_true.2 ⟨x,hx,by simpa using he⟩)
theorem fell_dsk{k' k:Dk}{arrs:List Nm}{P0:List (Pl×Sta)}{m' U':Int}{F':List Nat}{w':World}(hX:X=⟨arrs,P0,k.n⟩)(h:Fell k' k (fun l=>Hold l k.n arrs P0 B m' U'))(hD:DkAt M w' d k' F')(h10:10≤k.n)(hn:k.n≤1024)(k0:0≤k.st)(hst:k.st≤m)(hm:m'≤m)(hU:U'≤U)(hU2:U≤(halfN X.n:Nat)):DskQ X M w' d false true m U B F':=by
 subst hX
 refine⟨k',hD,h.dn,h.pe,h.eq.symm,by rw[h.eq,h.len,h.n],?_,hU2,h.n,by rw[h.n];exact h10,by rw[h.n];exact hn,by rw[h.st];exact k0,by rw[h.st];exact hst,fun _=>h.fz⟩
 rw[h.eq,h.n]
 exact h.q.mono hm hU
theorem SysQ.put(h:SysQ X M w s d z m U B G){Mc:List Nat}{b:Bt}{ca:Option Addr}{cn cc:Nat}(hc:R (tSl tCell) (G++Mc) w b.changes [.slice ca cn cc])(hU:U+b.weight≤(halfN X.n:Nat)):
 Calls Tryz.prog 13 #[.pointer (some ⟨s,0,none⟩),.agg #[.string b.token,.int .i64 b.stamp,.string b.array,.slice ca cn cc]] w fun e w'=>∃G',Own G w G' w'∧
  ((e=.returned (.tuple #[.bool (ansE X.arrs B b).1,.int .i64 (ansE X.arrs B b).2])∧SysQ X M w' s d z m (U+b.weight) (Taken B b (ansE X.arrs B b).1) G')∨
   (z=false∧(ansE X.arrs B b).1=true∧e=.returned (.tuple #[.bool false,.int .i64 17])∧(DskQ X M w' d false true m (U+b.weight) B G'∨DskQ X M w' d false true m (U+b.weight) (B++[b]) G'))):=by
 have hw:0≤b.weight:=by unfold Bt.weight;omega
 obtain⟨l,num,nxt,k,F,Fd,st,hS,hL,hA,hu,hh,hn,h1,h2,hz,rfl⟩:=h
 have hhalf:k.half=halfN X.n:=by rw[Dk.half_eqN,hn]
 obtain⟨hao,hres⟩:=hL.put b hA
 have hn10:=hL.n10
 obtain⟨a1,a2,a3,a4⟩:=putS_ans (X:=X) hA (b:=b) (half:=k.half) (by rw[hhalf];omega)
 refine(sPut_ok hS hc hL.stoB (by omega) (by have:=hL.num0;omega) hao).mono ?_
 rintro e w' ⟨rfl,F',Fd',h',hO⟩
 rcases hres with ⟨p1,p2,p3,p4,p5,p6⟩|⟨q1,q2,q3,q4,q5⟩
 ·refine⟨F'++Fd',hO,.inl ⟨by rw[p1,p2,a1,a2],?_⟩⟩
  rw[p3]at h'
  exact⟨l,num,_,_,F',Fd',_,h',p4,a3,by omega,hU,p5.trans hn,h1,by rw[p6];exact h2,fun hzt=>(On1.put ⟨hL.qt.on,hz hzt⟩ st num nxt b).2,rfl⟩
 ·refine⟨Fd',⟨hO.kp,fun x hx=>hO.new x (by simp[hx])⟩,.inr ⟨?_,by rw[←a1];exact q1,by rw[q2,q3],?_⟩⟩
  ·cases z with
   |false=>rfl
   |true =>
    have:=(On1.put ⟨hL.qt.on,hz rfl⟩ st num nxt b).1
    rw[q5.dn]at this
    cases this
  ·have hD:DkAt M w' d (st.put k num nxt b).k Fd':=h'.dk.weak fun x hx=>by simp[hx]
   have hq:=q5.q
   have hX:X=⟨X.arrs,X.P0,k.n⟩:=by rw[hn]
   rcases hq with hq|hq
   ·exact .inl (fell_dsk hX ⟨q5.dn,q5.pe,q5.eq,q5.len,hq,q5.n,q5.st,q5.fz⟩ hD hn10 hL.n1 hL.k0 h2 h1 (by omega) hU)
   ·exact .inr (fell_dsk hX ⟨q5.dn,q5.pe,q5.eq,q5.len,hq,q5.n,q5.st,q5.fz⟩ hD hn10 hL.n1 hL.k0 h2 h1 (by omega) hU)
theorem SysQ.cmp(h:SysQ X M w s d z m U B G)(hm:m<900000):
 Calls Tryz.prog 14 #[.pointer (some ⟨s,0,none⟩)] w fun e w'=>∃G',Own G w G' w'∧
  ((e=.returned (.int .i64 0)∧SysQ X M w' s d z (m+1) U B G')∨(z=false∧e=.returned (.int .i64 17)∧DskQ X M w' d false true (m+1) U B G')):=by
 obtain⟨l,num,nxt,k,F,Fd,st,hS,hL,hA,hu,hh,hn,h1,h2,hz,rfl⟩:=h
 have hn10:=hL.n10
 have hnum:=hL.num0
 have hqt:=hL.qt
 refine(sCompact_ok hS hL.v (by omega) (by omega) (by omega) (by rw[hqt.pe];simp) (fun ps' hp=>(hL.cmp (by omega) hp hA).1) (fun ps' hp=>(hL.cmp (by omega) hp hA).2.1)).mono ?_
 rintro e w' ⟨ps',hp,rfl,l',F',Fd',h',hO⟩
 rcases (hL.cmp (by omega) hp hA).2.2 with ⟨p1,p2,p3,p4,p5,p6⟩|⟨q1,q2⟩
 ·refine⟨F'++Fd',hO,.inl ⟨by rw[p1],?_⟩⟩
  rw[p2,p3]at h'
  have hlo:=hL.lo
  exact⟨l',num+1,_,_,F',Fd',_,h',p4,⟨hA.arr,hA.bat,hA.at_,hA.apt,hA.tok⟩,by dsimp only;omega,hh,p5.trans hn,by omega,by rw[p6];omega,fun hzt=>(On1.cmp ⟨hqt.on,hz hzt⟩ st num nxt ps').2,rfl⟩
 ·refine⟨Fd',⟨hO.kp,fun x hx=>hO.new x (by simp[hx])⟩,.inr ⟨?_,by rw[q1],?_⟩⟩
  ·cases z with
   |false=>rfl
   |true =>
    have:=(On1.cmp ⟨hqt.on,hz rfl⟩ st num nxt ps').1
    rw[q2.dn]at this
    cases this
  ·have hD:DkAt M w' d (st.cmp k num nxt ps').k Fd':=h'.dk.weak fun x hx=>by simp[hx]
   have hX:X=⟨X.arrs,X.P0,k.n⟩:=by rw[hn]
   exact fell_dsk hX q2 hD hn10 hL.n1 hL.k0 (by omega) (by omega) hu hh
theorem DskQ.opn(h:DskQ X M w d true z m U B G)(hm:m<900000):
 Calls Tryz.prog 15 #[.pointer (some ⟨d,0,none⟩)] w fun e w'=>∃G',Own G w G' w'∧
  ((∃s,e=.returned (.tuple #[.pointer (some ⟨s,0,none⟩),.int .i64 0])∧SysQ X M w' s d z (m+1) U B G')∨(z=false∧e=.returned (.tuple #[.pointer none,.int .i64 17])∧DskQ X M w' d false true m U B G')):=by
 obtain⟨k,hD,hon,hpe,heq,hlen,hH,hU,hn,h10,hn1,k0,k1,hz⟩:=h
 have hq:Qt k:=⟨hon,hpe,heq,hlen⟩
 have hhalf:k.half=halfN X.n:=by rw[Dk.half_eqN,hn]
 obtain⟨nxt,bs,ps,bt,n0,n1,hrec,hv,hb,hbl,hres⟩:=hH.opened hq h10 hn1 (by omega) k0 (by rw[hhalf];exact hU)
 have hst:(k.clear k.newest nxt).2.st=k.st:=by
  rcases hres with ⟨g1,g2⟩|⟨g1,g2,g3,_⟩
  ·exact g2.st
  ·exact g3
 refine(sOpen_ok (e:=nxt) hD (by omega) hon (by rw[hpe];simp) (by omega) (by omega) (by rw[hst];exact ini_i64.2 (by omega)) hrec hv hb hbl).mono ?_
 intro e w' hh
 rcases hres with ⟨g1,g2⟩|⟨g1,g2,g3,g4⟩
 ·rw[if_pos (by rw[g1];simp),g1]at hh
  obtain⟨rfl,Fd',hD',hO⟩:=hh
  refine⟨Fd',hO,.inr ⟨?_,rfl,?_⟩⟩
  ·cases z with
   |false=>rfl
   |true =>
    have:(k.clear k.newest nxt).2.down=false:=(On1.clear ⟨hon,hz rfl⟩ _ _).1
    rw[g2.dn]at this
    cases this
  ·exact fell_dsk (by rw[hn]) g2 hD' h10 hn1 k0 k1 (Int.le_refl _) (Int.le_refl _) hU
 ·rw[if_neg (by simp[g1])]at hh
  obtain⟨s,l,F,Fd',rfl,h',hO⟩:=hh
  obtain⟨f1,f2,f3⟩:=g4 ((k.clear k.newest nxt).2.st+1) (by rw[hst])
  refine⟨F++Fd',hO,.inl ⟨s,rfl,l,k.newest,nxt,_,F,Fd',_,h',f1,f2,f3,hU,g2.trans hn,by omega,by dsimp only;rw[hst];omega,fun hzt=>(On1.clear ⟨hon,hz hzt⟩ _ _).2,rfl⟩⟩
theorem DskQ.restart{on:Bool}(h:DskQ X M w d on z m U B G):Calls Tryz.prog 34 #[.pointer (some ⟨d,0,none⟩)] w fun e w'=>e=.returned (.int .i64 0)∧∃G',Own G w G' w'∧DskQ X M w' d true true m U B G':=by
 obtain⟨k,hD,hon,hpe,heq,hlen,hH,hU,hn,h10,hn1,k0,k1,hz⟩:=h
 refine(dRestart_ok hD).mono ?_
 rintro e w' ⟨rfl,F',hD',hO⟩
 exact⟨rfl,F',hO,k.restart,hD',rfl,hpe,heq,hlen,hH,hU,hn,h10,hn1,k0,k1,fun _=>rfl⟩
theorem DskQ.fuse(h:DskQ X M w d true z m U B G){Mb:List Nat}{i:Int}{ps:List Int}{ba:Option Addr}{bl bc:Nat}(hi:InI .i64 i)(h0:0≤i)(hps:R (tSl (tI .u8)) Mb w ps [.slice ba bl bc])(hpl:ps.length≤256):
 Calls Tryz.prog 40 #[.pointer (some ⟨d,0,none⟩),.int .i64 i,.slice ba bl bc] w fun e w'=>e=.returned (.int .i64 0)∧∃G',Own G w G' w'∧DskQ X M w' d true false m U B G':=by
 obtain⟨k,hD,hon,hpe,heq,hlen,hH,hU,hn,h10,hn1,k0,k1,hz⟩:=h
 have e0:k.fuseAt i ps=(0,{ k with fuse:=i,picks:=ps }):=by
  unfold Dk.fuseAt
  rw[if_neg (by omega),if_neg (by omega),if_neg (by simp[hon])]
 refine(dFuse_ok hD hi hps).mono ?_
 rw[e0]
 rintro e w' ⟨rfl,F',hD',hO⟩
 exact⟨rfl,F',hO,_,hD',hon,hpe,heq,hlen,hH,hU,hn,h10,hn1,k0,k1,fun hc=>(by cases hc)⟩
theorem DskQ.down{on:Bool}(h:DskQ X M w d on z m U B G):Calls Tryz.prog 38 #[.pointer (some ⟨d,0,none⟩)] w (PureR (.bool (!on)) w):=by
 obtain⟨k,hD,hon,_⟩:=h
 have:=dDown_ok hD
 rw[hon]at this
 exact this
theorem SysAt.dkTo{l num nxt}{F Fd:List Nat}{st:Sto}{k k':Dk}{w':World}(h:SysAt M w s l d num nxt st k F Fd)(ht:DkTo (F++M) Fd w d k' w'):∃Fd',SysAt M w' s l d num nxt st k' F Fd'∧Own (F++Fd) w (F++Fd') w':=by
 obtain⟨Fd',hD,hO⟩:=ht
 refine h.logTo ⟨Fd',hD,⟨hO.kp.mono fun x hx=>by simp[hx],fun x hx=>?_⟩,h.sto.log.keep hO.kp fun hm=>(h.dk.own_lt l hm).2 (List.mem_append_left _ h.sto.lF)⟩
 rcases List.mem_cons.1 hx with rfl|hx
 ·exact .inl (by simp)
 ·exact(hO.new x hx).imp (fun h=>by simp[h]) id
theorem SysQ.restart(h:SysQ X M w s d z m U B G):Calls Tryz.prog 34 #[.pointer (some ⟨d,0,none⟩)] w fun e w'=>e=.returned (.int .i64 0)∧∃G',Own G w G' w'∧SysQ X M w' s d true m U B G':=by
 obtain⟨l,num,nxt,k,F,Fd,st,hS,hL,hA,hu,hh,hn,h1,h2,hz,rfl⟩:=h
 refine(dRestart_ok hS.dk).mono ?_
 rintro e w' ⟨rfl,hT⟩
 obtain⟨Fd',hS',hO⟩:=hS.dkTo hT
 have hk:k.restart={ k with fuse:=-1,picks:=[] }:=by
  have:=hL.qt.on
  unfold Dk.restart
  rw[this]
 rw[hk]at hS'
 exact⟨rfl,F++Fd',hO,l,num,nxt,_,F,Fd',st,hS',hL.fuse _ _,hA,hu,hh,hn,h1,h2,fun _=>rfl,rfl⟩
theorem SysQ.fuse(h:SysQ X M w s d z m U B G){Mb:List Nat}{i:Int}{ps:List Int}{ba:Option Addr}{bl bc:Nat}(hi:InI .i64 i)(h0:0≤i)(hps:R (tSl (tI .u8)) Mb w ps [.slice ba bl bc])(hpl:ps.length≤256):
 Calls Tryz.prog 40 #[.pointer (some ⟨d,0,none⟩),.int .i64 i,.slice ba bl bc] w fun e w'=>e=.returned (.int .i64 0)∧∃G',Own G w G' w'∧SysQ X M w' s d false m U B G':=by
 obtain⟨l,num,nxt,k,F,Fd,st,hS,hL,hA,hu,hh,hn,h1,h2,hz,rfl⟩:=h
 have e0:k.fuseAt i ps=(0,{ k with fuse:=i,picks:=ps }):=by
  unfold Dk.fuseAt
  rw[if_neg (by omega),if_neg (by omega),if_neg (by simp[hL.qt.on])]
 refine(dFuse_ok hS.dk hi hps).mono ?_
 rw[e0]
 rintro e w' ⟨rfl,hT⟩
 obtain⟨Fd',hS',hO⟩:=hS.dkTo hT
 exact⟨rfl,F++Fd',hO,l,num,nxt,_,F,Fd',st,hS',hL.fuse _ _,hA,hu,hh,hn,h1,h2,fun hc=>(by cases hc),rfl⟩
theorem SysQ.down(h:SysQ X M w s d z m U B G):Calls Tryz.prog 38 #[.pointer (some ⟨d,0,none⟩)] w (PureR (.bool false) w):=by
 obtain⟨l,num,nxt,k,F,Fd,st,hS,hL,_⟩:=h
 have:=dDown_ok hS.dk
 rw[hL.qt.on]at this
 exact this
end
end Go.Vc
namespace Go.Vc
open Go Go.Proofs
open Go.Value Go.Ending Go.IntKind
set_option maxRecDepth 100000
theorem lformatted_vc{n:Int}{dba:Option Addr}{dbn dbc:Nat}{w:World}{R:Ending→World→Prop}
 (h :
 CallW Tryz.prog 19 #[int i64 n] w fun e1 w1 =>
 ∃a1 n1,e1=returned (tuple #[pointer a1,int i64 n1])∧
 KpL [] w w1∧
 CallW Tryz.prog 20 #[pointer a1,slice dba dbn dbc] w1 fun e2 w2 =>
 ∃a2 n2,e2=returned (tuple #[pointer a2,int i64 n2])∧
 ∃l1,KpL l1 w1 w2∧
 (n1=0→
 (n2=0→
 (¬a1=none→
 R (returned (tuple #[pointer a1,pointer a2,Value.bool (decide ¬a2=none)])) w2)∧
 (¬¬a1=none→
 R (returned (tuple #[pointer a1,pointer a2,Value.bool false])) w2))∧
 (¬n2=0→
 R (returned (tuple #[pointer a1,pointer a2,Value.bool false])) w2))∧
 (¬n1=0→
 R (returned (tuple #[pointer a1,pointer a2,Value.bool false])) w2)):Calls Tryz.prog 12 #[int i64 n,slice dba dbn dbc] w R :=
 fnc0 (an:={ muts:=[20],all:=true }) (args:=[.a (.c (.v (.int .i64 n))),.a (.c (.v (.slice dba dbn dbc)))]) Tryz_ok Tryz.func12 (by kernel_rfl) rfl rfl h
theorem lhas_vc{s:Nat}{la:Option Addr}{ln lc:Nat}{w:World}{R:Ending→World→Prop}
 (h :
 CallW Tryz.prog 16 #[pointer (some (Addr.mk s 0 none))] w fun e1 w1 =>
 ∃a1 k1 k2 n1,e1=returned (tuple #[slice a1 k1 k2,int i64 n1])∧
 KpL [] w w1∧
 (¬n1≠0→
 (¬(↑k1:Int)≠(1:Int)→
 ∃d1,a1=some d1∧
 (0:Int)≤(0:Int)∧
 (0:Int)<(↑k1:Int)∧
 ∃a2 k3 k4,LdA w1 (((d1.add (Int.toNat 0*4)).add 1).add 2) [slice a2 k3 k4]∧
 ((↑k3:Int)≠(↑ln:Int)→
 R (returned (Value.bool false)) w1)∧
 (¬(↑k3:Int)≠(↑ln:Int)→
 ∃(P1:List Value→World→Prop) (P2:List Value→World→Nat),P1 [int i64 0] w1∧
 ∀n2 w2,P1 [int i64 n2] w2→
 (n2<(↑ln:Int)→
 ∃d2,a1=some d2∧
 (0:Int)≤(0:Int)∧
 (0:Int)<(↑k1:Int)∧
 ∃a3 k5 k6,LdA w2 (((d2.add (Int.toNat 0*4)).add 1).add 2) [slice a3 k5 k6]∧
 ∃d3,a3=some d3∧
 0≤n2∧
 n2<(↑k5:Int)∧
 ∃a4 k7 k8 a5 k9 k10,LdA w2 (d3.add (n2.toNat*2)) [slice a4 k7 k8,slice a5 k9 k10]∧
 ∀k11,w2.heap.size≤k11→
 (¬(↑k7:Int)≠(2:Int)→
 ∃d4,a4=some d4∧
 (0:Int)≤(0:Int)∧
 (0:Int)<(↑k7:Int)∧
 ∃n3,LdA w2 (d4.add (Int.toNat 0*1)) [int i64 n3]∧
 ∃d5,la=some d5∧
 0≤n2∧
 n2<(↑ln:Int)∧
 ∃a6 k12 k13,LdA w2 ((d5.add (n2.toNat*2)).add 0) [slice a6 k12 k13]∧
 ∃d6,a6=some d6∧
 (0:Int)≤(0:Int)∧
 (0:Int)<(↑k12:Int)∧
 ∃n4,LdA w2 (d6.add (Int.toNat 0*1)) [int i64 n4]∧
 (¬n3≠n4→
 ∃d7,a4=some d7∧
 (0:Int)≤(1:Int)∧
 (1:Int)<(↑k7:Int)∧
 ∃n5,LdA w2 (d7.add (Int.toNat 1*1)) [int i64 n5]∧
 ∃d8,la=some d8∧
 0≤n2∧
 n2<(↑ln:Int)∧
 ∃a7 k14 k15,LdA w2 ((d8.add (n2.toNat*2)).add 0) [slice a7 k14 k15]∧
 ∃d9,a7=some d9∧
 (0:Int)≤(1:Int)∧
 (1:Int)<(↑k14:Int)∧
 ∃n6,LdA w2 (d9.add (Int.toNat 1*1)) [int i64 n6]∧
 (¬n5≠n6→
 (¬(↑k9:Int)≠(1:Int)→
 ∃d10,a5=some d10∧
 (0:Int)≤(0:Int)∧
 (0:Int)<(↑k9:Int)∧
 ∃n7 n8 n9 s1,LdA w2 (d10.add (Int.toNat 0*4)) [int i64 n7,int i64 n8,int i64 n9,string s1]∧
 ∃d11,la=some d11∧
 0≤n2∧
 n2<(↑ln:Int)∧
 ∃a8 k16 k17,LdA w2 ((d11.add (n2.toNat*2)).add 1) [slice a8 k16 k17]∧
 ∃d12,a8=some d12∧
 (0:Int)≤(0:Int)∧
 (0:Int)<(↑k16:Int)∧
 ∃n10 n11 n12 s2,LdA w2 (d12.add (Int.toNat 0*4)) [int i64 n10,int i64 n11,int i64 n12,string s2]∧
 ∃b1,Pv Tryz.prog
 (do
 eqGuard BinOp.neq 161 (Operand.tmp 88) (Operand.tmp 95) (agg #[int i64 n7,int i64 n8,int i64 n9,string s1]) (agg #[int i64 n10,int i64 n11,int i64 n12,string s2])
 binOp BinOp.neq 161 (agg #[int i64 n7,int i64 n8,int i64 n9,string s1]) (agg #[int i64 n10,int i64 n11,int i64 n12,string s2]))
 (Value.bool b1)∧
 (b1=true→
 ∀w3,KpL [] w2 w3→
 Hb w3 k11 #[slice a4 k7 k8,slice a5 k9 k10] 147→
 R (returned (Value.bool false)) w3)∧
 (b1=false→
 InI i64 (n2+1)∧
 ∀w4,KpL [] w2 w4→
 Hb w4 k11 #[slice a4 k7 k8,slice a5 k9 k10] 147→
 P1 [int i64 (n2+1)] w4∧
 P2 [int i64 (n2+1)] w4<P2 [int i64 n2] w2))∧
 ((↑k9:Int)≠(1:Int)→
 ∀w5,KpL [] w2 w5→
 Hb w5 k11 #[slice a4 k7 k8,slice a5 k9 k10] 147→
 R (returned (Value.bool false)) w5))∧
 (n5≠n6→
 ∀w6,KpL [] w2 w6→
 Hb w6 k11 #[slice a4 k7 k8,slice a5 k9 k10] 147→
 R (returned (Value.bool false)) w6))∧
 (n3≠n4→
 ∀w7,KpL [] w2 w7→
 Hb w7 k11 #[slice a4 k7 k8,slice a5 k9 k10] 147→
 R (returned (Value.bool false)) w7))∧
 ((↑k7:Int)≠(2:Int)→
 ∀w8,KpL [] w2 w8→
 Hb w8 k11 #[slice a4 k7 k8,slice a5 k9 k10] 147→
 R (returned (Value.bool false)) w8))∧
 (¬n2<(↑ln:Int)→
 R (returned (Value.bool true)) w2)))∧
 ((↑k1:Int)≠(1:Int)→
 R (returned (Value.bool false)) w1))∧
 (n1≠0→
 R (returned (Value.bool false)) w1)):Calls Tryz.prog 28 #[pointer (some (Addr.mk s 0 none)),slice la ln lc] w R :=
 fnc0 (an:={ loops:=[⟨5,[7],[4,8,32,33,34,35,36,37,38,39,40,41,42,43,44,45,46,47,48,49,50,51,52,53,54,55,56,57,58,59,60,61,62,63,64,65,66,67,68,69,70,71,72,73,74,75,76,77,78,79,80,81,82,83,84,85,86,87,88,89,90,91,92,93,94,95,96,97],[]⟩],all:=true }) (args:=[.a (.c (.v (.pointer (some ⟨s,0,none⟩)))),.a (.c (.v (.slice la ln lc)))]) Tryz_ok Tryz.func28 (by kernel_rfl) rfl rfl h
theorem lmade_vc{u:Nat}{w:World}{R:Ending→World→Prop}
 (h :
 CallW Tryz.prog 19 #[int i64 64] w fun e1 w1 =>
 ∃a1 n1,e1=returned (tuple #[pointer a1,int i64 n1])∧
 KpL [] w w1∧
 CallW Tryz.prog 36 #[] w1 fun e2 w2 =>
 ∃a2 k1 k2,e2=returned (slice a2 k1 k2)∧
 KpL [] w1 w2∧
 CallW Tryz.prog 20 #[pointer a1,slice a2 k1 k2] w2 fun e3 w3 =>
 ∃a3 n2,e3=returned (tuple #[pointer a3,int i64 n2])∧
 ∃l1,KpL l1 w2 w3∧
 (¬n1≠0→
 (¬n2≠0→
 (¬a1=none→
 (a3=none→
 R (returned (tuple #[pointer none,pointer none,Value.bool false])) w3)∧
 (¬a3=none→
 CallW Tryz.prog 29 #[pointer a3] w3 fun e4 w4 =>
 ∃n3 n4,e4=returned (tuple #[int i64 n3,int i64 n4])∧
 KpL [] w3 w4∧
 (n3=22→
 (n4=0→
 ∀k3,w4.heap.size≤k3→
 ∀w5,KpL [] w4 w5→
 Hb w5 k3 #[int i64 1] 2→
 CallW Tryz.prog 26 #[int i64 0,int i64 0,slice (some (Addr.mk k3 0 none)) 1 1] w5 fun e5 w6 =>
 ∃a4 k4 k5 a5 k6 k7,e5=returned (agg #[slice a4 k4 k5,slice a5 k6 k7])∧
 KpL [] w5 w6∧
 ∀k8,w6.heap.size≤k8→
 ∀w7,KpL [] w6 w7→
 Hb w7 k8 #[int i64 2] 2∧
 Hb w7 k3 #[int i64 1] 2→
 CallW Tryz.prog 26 #[int i64 1,int i64 0,slice (some (Addr.mk k8 0 none)) 1 1] w7 fun e6 w8 =>
 ∃a6 k9 k10 a7 k11 k12,e6=returned (agg #[slice a6 k9 k10,slice a7 k11 k12])∧
 KpL [] w7 w8∧
 ∀k13,w8.heap.size≤k13→
 ∀w9,KpL [] w8 w9→
 Hb w9 k13 #[slice a4 k4 k5,slice a5 k6 k7,slice a6 k9 k10,slice a7 k11 k12] 81∧
 Hb w9 k8 #[int i64 2] 2∧
 Hb w9 k3 #[int i64 1] 2→
 CallW Tryz.prog 25 (#[string (ByteArray.mk #[97]),int i64 5,slice (some (Addr.mk k13 0 none)) 2 2]) w9 fun e7 w10 =>
 ∃s1 n5 s2 a8 k14 k15,e7=returned (agg #[string s1,int i64 n5,string s2,slice a8 k14 k15])∧
 KpL [] w9 w10∧
 (Hb w10 k13 #[slice a4 k4 k5,slice a5 k6 k7,slice a6 k9 k10,slice a7 k11 k12] 81∧
 Hb w10 k8 #[int i64 2] 2∧
 Hb w10 k3 #[int i64 1] 2→
 CallW Tryz.prog 27 (#[pointer a3,agg #[string s1,int i64 n5,string s2,slice a8 k14 k15]]) w10 fun e8 w11 =>
 ∃b1,e8=returned (Value.bool b1)∧
 ∃l2,KpL l2 w10 w11∧
 (NotIn k13 l2∧
 NotIn k8 l2∧
 NotIn k3 l2)∧
 (b1=true→
 ∀k16,w11.heap.size≤k16→
 ∀w12,KpL [] w11 w12→
 Hb w12 k16 #[int i64 3] 2∧
 Hb w12 k13 #[slice a4 k4 k5,slice a5 k6 k7,slice a6 k9 k10,slice a7 k11 k12] 81∧
 Hb w12 k8 #[int i64 2] 2∧
 Hb w12 k3 #[int i64 1] 2→
 CallW Tryz.prog 26 #[int i64 1,int i64 0,slice (some (Addr.mk k16 0 none)) 1 1] w12 fun e9 w13 =>
 ∃a9 k17 k18 a10 k19 k20,e9=returned (agg #[slice a9 k17 k18,slice a10 k19 k20])∧
 KpL [] w12 w13∧
 ∀k21,w13.heap.size≤k21→
 ∀w14,KpL [] w13 w14→
 Hb w14 k21 #[int i64 4] 2∧
 Hb w14 k16 #[int i64 3] 2∧
 Hb w14 k13 #[slice a4 k4 k5,slice a5 k6 k7,slice a6 k9 k10,slice a7 k11 k12] 81∧
 Hb w14 k8 #[int i64 2] 2∧
 Hb w14 k3 #[int i64 1] 2→
 CallW Tryz.prog 26 #[int i64 3,int i64 1,slice (some (Addr.mk k21 0 none)) 1 1] w14 fun e10 w15 =>
 ∃a11 k22 k23 a12 k24 k25,e10=returned (agg #[slice a11 k22 k23,slice a12 k24 k25])∧
 KpL [] w14 w15∧
 ∀k26,w15.heap.size≤k26→
 ∀w16,KpL [] w15 w16→
 Hb w16 k26 #[slice a9 k17 k18,slice a10 k19 k20,slice a11 k22 k23,slice a12 k24 k25] 81∧
 Hb w16 k21 #[int i64 4] 2∧
 Hb w16 k16 #[int i64 3] 2∧
 Hb w16 k13 #[slice a4 k4 k5,slice a5 k6 k7,slice a6 k9 k10,slice a7 k11 k12] 81∧
 Hb w16 k8 #[int i64 2] 2∧
 Hb w16 k3 #[int i64 1] 2→
 CallW Tryz.prog 25 (#[string (ByteArray.mk #[98]),int i64 4,slice (some (Addr.mk k26 0 none)) 2 2]) w16 fun e11 w17 =>
 ∃s3 n6 s4 a13 k27 k28,e11=returned (agg #[string s3,int i64 n6,string s4,slice a13 k27 k28])∧
 KpL [] w16 w17∧
 (Hb w17 k26 #[slice a9 k17 k18,slice a10 k19 k20,slice a11 k22 k23,slice a12 k24 k25] 81∧
 Hb w17 k21 #[int i64 4] 2∧
 Hb w17 k16 #[int i64 3] 2∧
 Hb w17 k13 #[slice a4 k4 k5,slice a5 k6 k7,slice a6 k9 k10,slice a7 k11 k12] 81∧
 Hb w17 k8 #[int i64 2] 2∧
 Hb w17 k3 #[int i64 1] 2→
 CallW Tryz.prog 27 (#[pointer a3,agg #[string s3,int i64 n6,string s4,slice a13 k27 k28]]) w17 fun e12 w18 =>
 ∃b2,e12=returned (Value.bool b2)∧
 ∃l3,KpL l3 w17 w18∧
 (NotIn k26 l3∧
 NotIn k21 l3∧
 NotIn k16 l3∧
 NotIn k13 l3∧
 NotIn k8 l3∧
 NotIn k3 l3)∧
 (Hb w18 k26 #[slice a9 k17 k18,slice a10 k19 k20,slice a11 k22 k23,slice a12 k24 k25] 81∧
 Hb w18 k21 #[int i64 4] 2∧
 Hb w18 k16 #[int i64 3] 2∧
 Hb w18 k13 #[slice a4 k4 k5,slice a5 k6 k7,slice a6 k9 k10,slice a7 k11 k12] 81∧
 Hb w18 k8 #[int i64 2] 2∧
 Hb w18 k3 #[int i64 1] 2→
 R (returned (tuple #[pointer a1,pointer a3,Value.bool b2])) w18)))∧
 (b1=false→
 Hb w11 k13 #[slice a4 k4 k5,slice a5 k6 k7,slice a6 k9 k10,slice a7 k11 k12] 81∧
 Hb w11 k8 #[int i64 2] 2∧
 Hb w11 k3 #[int i64 1] 2→
 R (returned (tuple #[pointer a1,pointer a3,Value.bool false])) w11)))∧
 (¬n4=0→
 R (returned (tuple #[pointer a1,pointer a3,Value.bool false])) w4))∧
 (¬n3=22→
 R (returned (tuple #[pointer a1,pointer a3,Value.bool false])) w4)))∧
 (a1=none→
 R (returned (tuple #[pointer none,pointer none,Value.bool false])) w3))∧
 (n2≠0→
 R (returned (tuple #[pointer none,pointer none,Value.bool false])) w3))∧
 (n1≠0→
 R (returned (tuple #[pointer none,pointer none,Value.bool false])) w3)):Calls Tryz.prog 24 #[] w R :=
 fnc0 (an:={ muts:=[20,27],all:=true }) (args:=[]) Tryz_ok Tryz.func24 (by kernel_rfl) rfl rfl h
theorem lworks_vc{u:Nat}{w:World}{R:Ending→World→Prop}
 (h :
 CallW Tryz.prog 24 #[] w fun e1 w1 =>
 ∃a1 a2 b1,e1=returned (tuple #[pointer a1,pointer a2,Value.bool b1])∧
 ∃l1,KpL l1 w w1∧
 ((!b1)=false→
 ∀k1,w1.heap.size≤k1→
 ∀w2,KpL [] w1 w2→
 Hb w2 k1 #[int i64 1] 2→
 CallW Tryz.prog 26 #[int i64 0,int i64 0,slice (some (Addr.mk k1 0 none)) 1 1] w2 fun e2 w3 =>
 ∃a3 k2 k3 a4 k4 k5,e2=returned (agg #[slice a3 k2 k3,slice a4 k4 k5])∧
 KpL [] w2 w3∧
 ∀k6,w3.heap.size≤k6→
 ∀w4,KpL [] w3 w4→
 Hb w4 k6 #[int i64 2] 2∧
 Hb w4 k1 #[int i64 1] 2→
 CallW Tryz.prog 26 #[int i64 1,int i64 0,slice (some (Addr.mk k6 0 none)) 1 1] w4 fun e3 w5 =>
 ∃a5 k7 k8 a6 k9 k10,e3=returned (agg #[slice a5 k7 k8,slice a6 k9 k10])∧
 KpL [] w4 w5∧
 ∀k11,w5.heap.size≤k11→
 ∀w6,KpL [] w5 w6→
 Hb w6 k11 #[int i64 4] 2∧
 Hb w6 k6 #[int i64 2] 2∧
 Hb w6 k1 #[int i64 1] 2→
 CallW Tryz.prog 26 #[int i64 3,int i64 1,slice (some (Addr.mk k11 0 none)) 1 1] w6 fun e4 w7 =>
 ∃a7 k12 k13 a8 k14 k15,e4=returned (agg #[slice a7 k12 k13,slice a8 k14 k15])∧
 KpL [] w6 w7∧
 ∀k16,w7.heap.size≤k16→
 ∀w8,KpL [] w7 w8→
 Hb w8 k16 #[slice a3 k2 k3,slice a4 k4 k5,slice a5 k7 k8,slice a6 k9 k10,slice a7 k12 k13,slice a8 k14 k15] 81∧
 Hb w8 k11 #[int i64 4] 2∧
 Hb w8 k6 #[int i64 2] 2∧
 Hb w8 k1 #[int i64 1] 2→
 CallW Tryz.prog 28 #[pointer a2,slice (some (Addr.mk k16 0 none)) 3 3] w8 fun e5 w9 =>
 ∃b2,e5=returned (Value.bool b2)∧
 KpL [] w8 w9∧
 ((!b2)=true→
 Hb w9 k16 #[slice a3 k2 k3,slice a4 k4 k5,slice a5 k7 k8,slice a6 k9 k10,slice a7 k12 k13,slice a8 k14 k15] 81∧
 Hb w9 k11 #[int i64 4] 2∧
 Hb w9 k6 #[int i64 2] 2∧
 Hb w9 k1 #[int i64 1] 2→
 R (returned (Value.bool false)) w9)∧
 ((!b2)=false→
 Hb w9 k16 #[slice a3 k2 k3,slice a4 k4 k5,slice a5 k7 k8,slice a6 k9 k10,slice a7 k12 k13,slice a8 k14 k15] 81∧
 Hb w9 k11 #[int i64 4] 2∧
 Hb w9 k6 #[int i64 2] 2∧
 Hb w9 k1 #[int i64 1] 2→
 CallW Tryz.prog 29 #[pointer a2] w9 fun e6 w10 =>
 ∃n1 n2,e6=returned (tuple #[int i64 n1,int i64 n2])∧
 KpL [] w9 w10∧
 (n1=6→
 Hb w10 k16 #[slice a3 k2 k3,slice a4 k4 k5,slice a5 k7 k8,slice a6 k9 k10,slice a7 k12 k13,slice a8 k14 k15] 81∧
 Hb w10 k11 #[int i64 4] 2∧
 Hb w10 k6 #[int i64 2] 2∧
 Hb w10 k1 #[int i64 1] 2→
 R (returned (Value.bool (decide (n2=0)))) w10)∧
 (¬n1=6→
 Hb w10 k16 #[slice a3 k2 k3,slice a4 k4 k5,slice a5 k7 k8,slice a6 k9 k10,slice a7 k12 k13,slice a8 k14 k15] 81∧
 Hb w10 k11 #[int i64 4] 2∧
 Hb w10 k6 #[int i64 2] 2∧
 Hb w10 k1 #[int i64 1] 2→
 R (returned (Value.bool false)) w10)))∧
 ((!b1)=true→
 R (returned (Value.bool false)) w1)):Calls Tryz.prog 9 #[] w R :=
 fnc0 (an:={ muts:=[24],all:=true }) (args:=[]) Tryz_ok Tryz.func9 (by kernel_rfl) rfl rfl h
end Go.Vc
namespace Go.Vc
open Go Go.Proofs
theorem addr_add(ad:Addr)(i j:Nat):(ad.add i).add j=ad.add (i+j):=by
 unfold Addr.add
 by_cases hi:i=0<;>by_cases hj:j=0<;>simp[hi,hj,Nat.add_assoc]
def okDb(n:Nat)(db:List Nm):Prop:=dbE db=0∧db.length≠0∧(fmtSto db).use≤(((n - 2) / 2:Nat):Int)
instance (n:Nat) (db:List Nm):Decidable (okDb n db):=by unfold okDb;infer_instance
end Go.Vc
namespace Go.Vc
open Go Go.Proofs
theorem csorted_eq:∀{xs ys:List Cell},xs.Perm ys→CSorted xs→CSorted ys→xs=ys
 |[],ys,h,_,_=>(List.nil_perm.1 h).symm
 |x::r,[],h,_,_=>absurd h.length_eq (by simp)
 |x::r,y::t,h,hx,hy=>by
  unfold CSorted at hx hy
  rw[List.pairwise_cons]at hx hy
  have hxy:x=y:=by
   rcases List.mem_cons.1 (h.mem_iff.1 (List.mem_cons_self ..)) with e|hm
   ·exact e
   rcases List.mem_cons.1 (h.mem_iff.2 (List.mem_cons_self ..)) with e|hm2
   ·exact e.symm
   have h1:=hy.1 x hm
   have h2:=hx.1 y hm2
   have h3:=cmpL_swap x.at_ y.at_
   omega
  subst hxy
  rw[csorted_eq ((List.perm_cons x).1 h) hx.2 hy.2]
theorem lhas_ok{M Ml G:List Nat}{w:World}{s d n:Nat}{c:Int}{st:Sto}(h:SysL M w s d n c st G){cs:List Cell}{la:Option Addr}{ln lc:Nat}(hl:R (tSl tCell) Ml w cs [.slice la ln lc])(ha:st.arrays.length=1)
 (hcs:∀ys:List Cell,ys.Perm (cellsI st.arrays st.places 0)→CSorted ys→ys=cs)(hsh:∀x∈cs,x.at_.length=2∧x.vals.length=1):
 Calls Tryz.prog 28 #[.pointer (some ⟨s,0,none⟩),.slice la ln lc] w (PureR (.bool true) w):=by
 obtain⟨rfl,_,_⟩:=hl.sl_len
 have hmx:maxSl=140737488355328:=rfl
 refine lhas_vc ⟨(h.db (N:=[]) (by simp)).mono ?_⟩
 rintro e w1 ⟨hk1,out,a,m,q,rfl,hlen,hrel,hR⟩
 obtain⟨rfl,_,_⟩:=hR.sl_len
 have g0:0<out.length:=by omega
 have hcells:out[0].arr.cells=cs:=by
  obtain⟨x,hx,_,_,_,hp,hs⟩:=hrel 0 out[0] (List.getElem?_eq_getElem g0)
  exact hcs _ hp hs
 have get:∀{w':World},KpL [] w1 w'→∃ad b3 p3 q3,a=some ad∧LdA w' (((ad.add (0*4)).add 1).add 2) [.slice b3 p3 q3]∧R (tSl tCell) [] w' cs [.slice b3 p3 q3]:=by
  intro w' hk
  obtain⟨ad,cs',rfl,hv1,_,_,_,hpt⟩:=(hR.kp0 hk).sl_get2 g0
  obtain⟨b1,p1,q1,b2,p2,q2,b3,p3,q3,rfl,_,_,_,x3⟩:=hv1.nm
  rw[hcells]at x3
  refine⟨ad,b3,p3,q3,rfl,?_,x3⟩
  rw[addr_add]
  exact hpt 3 [_] rfl
 refine⟨a,_,q,0,rfl,hk1,fun _=>⟨fun _=>?_,fun hc=>absurd (by omega) hc⟩,fun hc=>absurd rfl hc⟩
 obtain⟨ad,b3,p3,q3,rfl,hld0,hx0⟩:=get (KpL.refl _ _)
 obtain⟨hp3,_,_⟩:=hx0.sl_len
 refine⟨ad,rfl,by omega,by omega,b3,p3,q3,hld0,fun hc=>absurd (by omega) hc,fun _=>?_⟩
 refine⟨fun vs w'=>∃i:Nat,vs=[.int .i64 (i:Int)]∧i≤cs.length∧KpL [] w1 w',fun vs _=>match vs with|[.int _ i]=>cs.length - i.toNat|_=>0,⟨0,rfl,by omega,KpL.refl _ _⟩,?_⟩
 rintro n2 w2 ⟨i,hv,hi,hk2⟩
 simp only[List.cons.injEq,Value.int.injEq,true_and,and_true]at hv
 subst hv
 constructor
 ·intro hlt
  have gi:i<cs.length:=by omega
  obtain⟨ad',c3,r3,t3,had,hld2,hx2⟩:=get hk2
  simp only[Option.some.injEq]at had
  subst had
  obtain⟨hr3,_,_⟩:=hx2.sl_len
  obtain⟨ad3,cs3,rfl,hv3,hld3,_,_⟩:=hx2.sl_get gi
  obtain⟨a4,k7,k8,a5,k9,k10,rfl,y1,y2⟩:=hv3.cell
  obtain⟨ad5,cs5,rfl,hv5,_,_,_,hpt5⟩:=(hl.kp0 (hk1.trans hk2)).sl_get2 gi
  obtain⟨a6,k12,k13,a8,k16,k17,rfl,z1,z2⟩:=hv5.cell
  obtain⟨s1,s2⟩:=hsh cs[i] (List.getElem_mem gi)
  obtain⟨hy1,_,_⟩:=y1.sl_len
  obtain⟨hy2,_,_⟩:=y2.sl_len
  obtain⟨hz1,_,_⟩:=z1.sl_len
  obtain⟨hz2,_,_⟩:=z2.sl_len
  obtain⟨ad4,c4,rfl,v4,l4,_,_⟩:=y1.sl_get (i:=0) (by omega)
  obtain⟨rfl,_⟩:=v4.intD
  obtain⟨ad4',c4',had4,v4',l4',_,_⟩:=y1.sl_get (i:=1) (by omega)
  obtain⟨rfl,_⟩:=v4'.intD
  simp only[Option.some.injEq]at had4
  subst had4
  obtain⟨ad6,c6,rfl,v6,l6,_,_⟩:=z1.sl_get (i:=0) (by omega)
  obtain⟨rfl,_⟩:=v6.intD
  obtain⟨ad6',c6',had6,v6',l6',_,_⟩:=z1.sl_get (i:=1) (by omega)
  obtain⟨rfl,_⟩:=v6'.intD
  simp only[Option.some.injEq]at had6
  subst had6
  obtain⟨ad10,c10,rfl,v10,l10,_,_⟩:=y2.sl_get (i:=0) (by omega)
  obtain⟨rfl,_⟩:=v10.val
  obtain⟨ad12,c12,rfl,v12,l12,_,_⟩:=z2.sl_get (i:=0) (by omega)
  obtain⟨rfl,_⟩:=v12.val
  have hg:Tryz.prog.eqGuardType Tryz.prog.depth 161=false:=by kernel_rfl
  refine⟨ad,rfl,by omega,by omega,_,_,_,hld2,ad3,rfl,by omega,by omega,_,_,_,_,_,_,hld3,fun k11 hk11=>⟨fun _=>⟨ad4,rfl,by omega,by omega,_,l4,ad5,rfl,by omega,hlt,_,_,_,hpt5 0 [_] rfl,ad6,rfl,by omega,by omega,_,l6,fun _=>?_,fun hc=>absurd rfl hc⟩,fun hc=>absurd (by omega) hc⟩⟩
  refine⟨ad4,rfl,by omega,by omega,_,l4',ad5,rfl,by omega,hlt,_,_,_,hpt5 0 [_] rfl,ad6,rfl,by omega,by omega,_,l6',fun _=>⟨fun _=>?_,fun hc=>absurd (by omega) hc⟩,fun hc=>absurd rfl hc⟩
  refine⟨ad10,rfl,by omega,by omega,_,_,_,_,l10,ad5,rfl,by omega,hlt,_,_,_,hpt5 1 [_] rfl,ad12,rfl,by omega,by omega,_,_,_,_,l12,_,pv_neq hg (fun w=>eq161 w _ _ _ _ _ _ _ _),fun hc=>?_,fun _=>⟨ini_i64.2 (by omega),fun w4 hk4 _=>⟨⟨i+1,rfl,by omega,hk2.trans hk4⟩,by dsimp only;omega⟩⟩⟩
  simp at hc
 ·intro _
  exact⟨rfl,hk1.trans hk2⟩
end Go.Vc
namespace Go.Vc
open Go Go.Proofs
def chk(db:List Nm)(b:Bt):Bool:=decide ((fmtSto db).checkE b=0)
structure Run (db:List Nm) (L:List Bt) (i:Nat) (st:Sto):Prop where
 aft:Aft (db.map fmtArr) (fmtPl 0 db) ((L.take i).filter (chk db)) st
 use:st.use≤(fmtSto db).use+14*i
theorem Run.start{db:List Nm}{L:List Bt}(i:Int):Run db L 0 { fmtSto db with id:=i }:=by
 refine⟨⟨rfl,rfl,fun p=>?_,by simp,by simp⟩,by show(fmtSto db).use≤_;omega⟩
 show At _ (fmtPl 0 db) _ p (getM (fmtPl 0 db) p)
 cases hx:getM (fmtPl 0 db) p with
 |none=>exact .none hx (by simp)
 |some x =>
  refine .old x x ?_ hx rfl (by simp)
  unfold getM at hx
  obtain⟨q,hq,rfl⟩:=Option.map_eq_some_iff.1 hx
  obtain⟨j,y,c,_,_,hp⟩:=fmtPl_a (List.mem_of_find?_eq_some hq)
  rw[hp]
theorem getM_some_mem{κ β:Type}[DecidableEq κ]{l:List (κ×β)}{k:κ}{v:β}(h:getM l k=some v):(k,v)∈l:=by
 unfold getM at h
 obtain⟨q,hq,rfl⟩:=Option.map_eq_some_iff.1 h
 have h1:=List.find?_some hq
 have h2:=List.mem_of_find?_eq_some hq
 simp only[decide_eq_true_eq]at h1
 rw[←h1]
 exact h2
theorem cellsI_sub{ars:List Nm}{ps qs:List (Pl×Sta)}(nd:(ps.map (·.1)).Nodup)(h:∀p,(getM ps p).map (·.vals)=(getM qs p).map (·.vals)){i:Nat}{c:Cell}(hc:c∈cellsI ars ps i):c∈cellsI ars qs i:=by
 unfold cellsI at hc ⊢
 obtain⟨q,hq,he⟩:=List.mem_filterMap.1 hc
 have hg:=getM_mem nd (k:=q.1) (v:=q.2) hq
 have h1:=h q.1
 rw[hg]at h1
 cases hx:getM qs q.1 with
 |none=>rw[hx]at h1;cases h1
 |some y =>
  rw[hx]at h1
  have hv:q.2.vals=y.vals:=by simpa using h1
  refine List.mem_filterMap.2 ⟨(q.1,y),getM_some_mem hx,?_⟩
  unfold cellP at he ⊢
  dsimp only
  rw[←hv]
  exact he
theorem csorted_nd{l:List Cell}(h:CSorted l):l.Nodup:=by
 unfold CSorted at h
 refine h.imp fun {a b} hab he=>?_
 subst he
 have:cmpL a.at_ a.at_=0:=cmpL_zero.2 rfl
 omega
theorem cellsE_of{ds:List Dim}{ats:List Attr}:∀{l:List Cell} {p:Option Cell},(∀c∈l,cellE ds ats c=0)→CSorted l→(∀q,p=some q→∀c∈l,cmpL q.at_ c.at_<0)→cellsE ds ats p l=0
 |[],p,_,_,_=>by cases p<;>rfl
 |c::r,none,h,hs,_=>by
  unfold CSorted at hs
  rw[List.pairwise_cons]at hs
  rw[cellsE,if_neg (by rw[h c (by simp)];simp)]
  exact cellsE_of (fun d hd=>h d (by simp[hd])) hs.2 fun q hq d hd=>by simp only[Option.some.injEq]at hq;subst hq;exact hs.1 d hd
 |c::r,some p,h,hs,hp=>by
  unfold CSorted at hs
  rw[List.pairwise_cons]at hs
  have:=hp p rfl c (by simp)
  rw[cellsE,if_neg (by rw[h c (by simp)];simp),if_neg (by omega),if_neg (by omega)]
  exact cellsE_of (fun d hd=>h d (by simp[hd])) hs.2 fun q hq d hd=>by simp only[Option.some.injEq]at hq;subst hq;exact hs.1 d hd
theorem db_ok{st:Sto}(v:StoV st){out:List Nm}(h:DbRel st.arrays st.places out){i:Nat}{y:Nm}(hy:out[i]?=some y):arrE y.arr=0:=by
 obtain⟨x,hx,_,h2,h3,h4,h5⟩:=h i y hy
 have hs:=v.sch x (List.mem_of_getElem? hx)
 have hc:=cellsI_ok v.sch v.pls hx
 unfold arrE
 rw[h2,h3,if_neg (by rw[hs];simp),if_neg]
 ·exact cellsE_of (fun c hcm=>hc c (h4.mem_iff.1 hcm)) h5 fun q hq=>by cases hq
 ·have e:=h4.length_eq
  have:(cellsI st.arrays st.places i).length≤st.places.length:=by unfold cellsI;exact List.length_filterMap_le _ _
  have:=v.pn
  omega
theorem db_eq{s t:Sto}(v:StoV s)(u:StoV t)(ha:s.arrays=t.arrays)(hm:∀p,(getM s.places p).map (·.vals)=(getM t.places p).map (·.vals)){a b:List Nm}(h:DbRel s.arrays s.places a)(k:DbRel t.arrays t.places b){i:Nat}{x y:Nm}(hx:a[i]?=some x)(hy:b[i]?=some y):
 x.name=y.name∧sameA x.arr y.arr=true:=by
 have ex:=db_ok v h hx
 have ey:=db_ok u k hy
 obtain⟨p,hp,h1,h2,h3,h4,h5⟩:=h i x hx
 obtain⟨q,hq,k1,k2,k3,k4,k5⟩:=k i y hy
 rw[←ha,hp,Option.some.injEq]at hq
 subst hq
 have hc:x.arr.cells=y.arr.cells:=by
  refine csorted_eq ((List.perm_ext_iff_of_nodup (csorted_nd h5) (csorted_nd k5)).2 fun c=>?_) h5 k5
  rw[h4.mem_iff,k4.mem_iff,←ha]
  exact⟨cellsI_sub v.keys hm,cellsI_sub u.keys fun p=>(hm p).symm⟩
 have he:x.arr=y.arr:=by
  cases hxa:x.arr
  cases hya:y.arr
  rw[hxa]at h2 h3 hc
  rw[hya]at k2 k3 hc
  simp only at h2 h3 k2 k3 hc
  rw[h2,h3,hc,k2,k3]
 refine⟨h1.trans k1.symm,?_⟩
 unfold sameA
 rw[ex,ey,he]
 simp
end Go.Vc
namespace Go.Vc
open Go Go.Proofs
theorem three_R{α:Type}{t:Ty α}{w:World}{b T:Nat}{c1 c2 c3:List Value}{x y z:α}{M:List Nat}(hk:w.heap[b]?=some (.cells (c1++(c2++c3)).toArray T (0,0)))(hkM:b∉M)(h1:R t M w x c1)(h2:R t M w y c2)(h3:R t M w z c3):R (tSl t) M w [x,y,z] [.slice (some ⟨b,0,none⟩) 3 3]:=by
 have l1:c1.length=t.sz:=t.len h1
 have l2:c2.length=t.sz:=t.len h2
 refine⟨_,_,rfl,Nat.le_refl _,by show(3:Nat)≤140737488355328;omega,fun _=>⟨b,0,_,T,_,rfl,⟨block_lt hk,hkM⟩,hk,fun j u hu=>?_⟩⟩
 match j,hu with
 |0,hu =>
  simp at hu
  subst hu
  refine⟨_,h1,fun i v hv=>?_⟩
  have hi:i<c1.length:=(List.getElem?_eq_some_iff.1 hv).1
  simp only[List.toList_toArray,Nat.zero_mul,Nat.zero_add]
  rw[List.getElem?_append_left hi]
  exact hv
 |1,hu =>
  simp at hu
  subst hu
  refine⟨_,h2,fun i v hv=>?_⟩
  have hi:i<c2.length:=(List.getElem?_eq_some_iff.1 hv).1
  simp only[List.toList_toArray,Nat.one_mul,Nat.zero_add]
  rw[List.getElem?_append_right (by omega),l1,Nat.add_sub_cancel_left,List.getElem?_append_left hi]
  exact hv
 |2,hu =>
  simp at hu
  subst hu
  refine⟨_,h3,fun i v hv=>?_⟩
  simp only[List.toList_toArray,Nat.zero_add]
  rw[List.getElem?_append_right (by omega),List.getElem?_append_right (by omega)]
  have e:2*t.sz+i - c1.length - c2.length=i:=by omega
  rw[e]
  exact hv
 |j+3,hu=>simp at hu
theorem lputL{M Mc G:List Nat}{w:World}{s d n:Nat}{c:Int}{st:Sto}(h:SysL M w s d n c st G){b:Bt}{ca:Option Addr}{cn cc:Nat}(hc:R (tSl tCell) (G++Mc) w b.changes [.slice ca cn cc]):
 Calls Tryz.prog 27 #[.pointer (some ⟨s,0,none⟩),.agg #[.string b.token,.int .i64 b.stamp,.string b.array,.slice ca cn cc]] w fun e w'=>e=.returned (.bool ((st.putS ((n - 2) / 2) b).1&&decide ((st.putS ((n - 2) / 2) b).2.1=0)))∧
  ∃G',SysL M w' s d n c (st.putS ((n - 2) / 2) b).2.2 G'∧Own G w G' w':=by
 refine lput_vc fun k1 hk1 w1 hw1=>⟨((h.kp0 hw1).put (hc.kp0 hw1)).mono ?_⟩
 rintro e w2 ⟨rfl,G',h2,hO⟩
 have hO':Own G w G' w2:=(Own.of0 hw1).trans hO
 refine⟨_,_,rfl,_,hO.kp,⟨fun hm=>by have:=(h.own_lt k1 hm).1;omega⟩,fun hb=>⟨?_,G',h2,hO'⟩,fun hb=>⟨?_,G',h2,hO'⟩⟩
 ·rw[hb];simp
 ·rw[hb];simp
def nmT:ByteArray:=⟨#[116]⟩
def exC(x y n:Int):Cell:=⟨[x,y],[vNum n]⟩
def exB1:Bt:=⟨⟨#[97]⟩,5,nmT,[exC 0 0 1,exC 1 0 2]⟩
def exB2:Bt:=⟨⟨#[98]⟩,4,nmT,[exC 1 0 3,exC 3 1 4]⟩
def exS0(i:Int):Sto:={ fmtSto [exNm] with id:=i }
def exS1(i:Int):Sto:=(exS0 i).commit exB1
def exS2(i:Int):Sto:=(exS1 i).commit exB2
theorem ex_put1(i:Int):(exS0 i).putS 31 exB1=(true,0,exS1 i):=by
 unfold Sto.putS
 rw[if_neg,if_neg,if_neg]
 ·rfl
 ·show ¬(31:Int)<9+8
  omega
 ·show ¬([]:List Seen).any _=true
  simp
 ·rw[Classical.not_not]
  kernel_rfl
theorem ex_put2(i:Int):(exS1 i).putS 31 exB2=(true,0,exS2 i):=by
 unfold Sto.putS
 rw[if_neg,if_neg,if_neg]
 ·rfl
 ·show ¬(31:Int)<17+8
  omega
 ·show ¬([exB1.seen]:List Seen).any (fun x=>decide (x.token=exB2.token))=true
  decide
 ·rw[Classical.not_not]
  kernel_rfl
theorem ex_cells(i:Int):cellsI (exS2 i).arrays (exS2 i).places 0=[exC 0 0 1,exC 1 0 2,exC 3 1 4]:=by kernel_rfl
theorem ex_db:dbE [exNm]=0:=by kernel_rfl
theorem lmade_ok{M:List Nat}{w:World}(hM:∀b∈M,b<w.heap.size):Calls Tryz.prog 24 #[] w fun e w'=>KpL [] w w'∧∃d s G i,e=.returned (.tuple #[.pointer (some ⟨d,0,none⟩),.pointer (some ⟨s,0,none⟩),.bool true])∧SysL M w' s d 64 1 (exS2 i) G∧∀b∈G,w.heap.size≤b:=by
 have hmx:maxSl=140737488355328:=rfl
 refine lmade_vc (u:=0) ⟨(newDisk_ok (n:=64) hM (by omega) (by omega)).mono ?_⟩
 rintro e w1 ⟨d,Fd,rfl,hk1,hD,hnew⟩
 refine⟨_,_,rfl,hk1,⟨(lexample_ok (M:=[]) (by simp)).mono ?_⟩⟩
 rintro e w2 ⟨a2,n2,c2,rfl,hk2,hR⟩
 refine⟨_,_,_,rfl,hk2,⟨(fmtL (hD.kp0 hk2) (by omega) (by omega) hR (by decide)).mono ?_⟩⟩
 intro e w3 hh
 rw[if_neg (by rw[ex_db];simp),if_neg (by show ¬(31:Int)<9;omega)]at hh
 obtain⟨s,G,i,rfl,hS,hO⟩:=hh
 have hnew2:∀b∈Fd,w.heap.size≤b:=hnew
 have k03:KpL [] w w3:=(hk1.trans hk2).more hO.kp fun b hb=>.inr (hnew2 b hb)
 have hG:∀b∈G,w.heap.size≤b:=fun b hb=>(hO.new b hb).elim (hnew2 b) fun hge=>Nat.le_trans (hk1.trans hk2).size hge
 refine⟨_,_,rfl,Fd,hO.kp,fun _=>⟨fun _=>⟨fun _=>⟨fun hc=>(by cases hc),fun _=>?_⟩,fun hc=>(by cases hc)⟩,fun hc=>absurd rfl hc⟩,fun hc=>absurd rfl hc⟩
 refine⟨hS.room.mono ?_⟩
 rintro e w4 ⟨rfl,hk4⟩
 refine⟨_,_,rfl,hk4,fun _=>⟨fun _=>?_,fun hc=>absurd rfl hc⟩,fun hc=>absurd (show(((64 - 2) / 2:Nat):Int) - 9=22 from rfl) hc⟩
 have hS4:=hS.kp0 hk4
 have s4:=hk4.size
 have gl4:∀b∈G,b<w4.heap.size:=fun b hb=>(hS4.own_lt b hb).1
 intro k3 hk3 w5 hw5 hkn5
 have gl5:∀b∈G,b<w5.heap.size:=fun b hb=>Nat.lt_of_lt_of_le (gl4 b hb) hw5.size
 refine⟨(lat_ok (M:=G) gl5 (x:=0) (y:=0) (ini_i64.2 (by omega)) (ini_i64.2 (by omega)) (one_R (t:=tI .i64) (x:=(1:Int)) (M:=[]) hkn5 (by simp) ⟨rfl,ini_i64.2 (by omega)⟩)).mono ?_⟩
 rintro e w6 ⟨a4,k4,k5,a5,k6,k7,rfl,hk6,hc1⟩
 refine⟨_,_,_,_,_,_,rfl,hk6,fun k8 hk8 w7 hw7 hkn7=>?_⟩
 have gl7:∀b∈G,b<w7.heap.size:=fun b hb=>Nat.lt_of_lt_of_le (gl5 b hb) (hk6.trans hw7).size
 refine⟨(lat_ok (M:=G) gl7 (x:=1) (y:=0) (ini_i64.2 (by omega)) (ini_i64.2 (by omega)) (one_R (t:=tI .i64) (x:=(2:Int)) (M:=[]) hkn7.1 (by simp) ⟨rfl,ini_i64.2 (by omega)⟩)).mono ?_⟩
 rintro e w8 ⟨a6,k9,k10,a7,k11,k12,rfl,hk8',hc2⟩
 refine⟨_,_,_,_,_,_,rfl,hk8',fun k13 hk13 w9 hw9 hkn9=>⟨(lbatch_ok w9 _ _ _ _ _).mono ?_⟩⟩
 rintro e w10 ⟨rfl,hk10⟩
 refine⟨_,_,_,_,_,_,rfl,hk10,fun hkn10=>?_⟩
 have k410:KpL [] w4 w10:=((((hw5.trans hk6).trans hw7).trans hk8').trans hw9).trans hk10
 have hS10:=hS4.kp0 k410
 have s8:w4.heap.size≤w8.heap.size:=(((hw5.trans hk6).trans hw7).trans hk8').size
 have hb1:R (tSl tCell) (G++[]) w10 exB1.changes [.slice (some ⟨k13,0,none⟩) 2 2]:=by
  rw[List.append_nil]
  exact pair_R (t:=tCell) (c1:=[_,_]) (c2:=[_,_]) hkn10.1 (fun hm=>by have:=gl4 _ hm;omega) (hc1.kp0 (((hw7.trans hk8').trans hw9).trans hk10)) (hc2.kp0 (hw9.trans hk10))
 refine⟨(lputL (st:=exS0 i) (b:=exB1) hS10 hb1).mono ?_⟩
 rintro e w11 ⟨rfl,G1,hS11,hO11⟩
 have e31:(64 - 2) / 2=31:=rfl
 rw[e31,ex_put1]at hS11
 rw[e31,ex_put1]
 have gno:∀k,w4.heap.size≤k→k∉G:=fun k hk hm=>by have:=gl4 _ hm;omega
 have k011:KpL [] w w11:=((k03.trans hk4).trans k410).more hO11.kp fun b hb=>.inr (hG b hb)
 have hG1:∀b∈G1,w.heap.size≤b:=fun b hb=>(hO11.new b hb).elim (hG b) fun hge=>Nat.le_trans ((k03.trans hk4).trans k410).size hge
 have s5:=hw5.size
 have s6:=hk6.size
 have s7:=hw7.size
 refine⟨_,rfl,G,hO11.kp,⟨⟨gno _ (by omega)⟩,⟨gno _ (by omega)⟩,⟨gno _ (by omega)⟩⟩,fun _=>?_,fun hc=>(by simp at hc)⟩
 have gl11:∀b∈G1,b<w11.heap.size:=fun b hb=>(hS11.own_lt b hb).1
 intro k16 hk16 w12 hw12 hkn12
 have gl12:∀b∈G1,b<w12.heap.size:=fun b hb=>Nat.lt_of_lt_of_le (gl11 b hb) hw12.size
 refine⟨(lat_ok (M:=G1) gl12 (x:=1) (y:=0) (ini_i64.2 (by omega)) (ini_i64.2 (by omega)) (one_R (t:=tI .i64) (x:=(3:Int)) (M:=[]) hkn12.1 (by simp) ⟨rfl,ini_i64.2 (by omega)⟩)).mono ?_⟩
 rintro e w13 ⟨a9,k17,k18,a10,k19,k20,rfl,hk13',hc3⟩
 refine⟨_,_,_,_,_,_,rfl,hk13',fun k21 hk21 w14 hw14 hkn14=>?_⟩
 have gl14:∀b∈G1,b<w14.heap.size:=fun b hb=>Nat.lt_of_lt_of_le (gl12 b hb) (hk13'.trans hw14).size
 refine⟨(lat_ok (M:=G1) gl14 (x:=3) (y:=1) (ini_i64.2 (by omega)) (ini_i64.2 (by omega)) (one_R (t:=tI .i64) (x:=(4:Int)) (M:=[]) hkn14.1 (by simp) ⟨rfl,ini_i64.2 (by omega)⟩)).mono ?_⟩
 rintro e w15 ⟨a11,k22,k23,a12,k24,k25,rfl,hk15,hc4⟩
 refine⟨_,_,_,_,_,_,rfl,hk15,fun k26 hk26 w16 hw16 hkn16=>⟨(lbatch_ok w16 _ _ _ _ _).mono ?_⟩⟩
 rintro e w17 ⟨rfl,hk17⟩
 refine⟨_,_,_,_,_,_,rfl,hk17,fun hkn17=>?_⟩
 have k1117:KpL [] w11 w17:=((((hw12.trans hk13').trans hw14).trans hk15).trans hw16).trans hk17
 have hS17:=hS11.kp0 k1117
 have s15:w11.heap.size≤w15.heap.size:=(((hw12.trans hk13').trans hw14).trans hk15).size
 have hb2:R (tSl tCell) (G1++[]) w17 exB2.changes [.slice (some ⟨k26,0,none⟩) 2 2]:=by
  rw[List.append_nil]
  exact pair_R (t:=tCell) (c1:=[_,_]) (c2:=[_,_]) hkn17.1 (fun hm=>by have:=gl11 _ hm;omega) (hc3.kp0 (((hw14.trans hk15).trans hw16).trans hk17)) (hc4.kp0 (hw16.trans hk17))
 refine⟨(lputL (st:=exS1 i) (b:=exB2) hS17 hb2).mono ?_⟩
 rintro e w18 ⟨rfl,G2,hS18,hO18⟩
 rw[e31,ex_put2]at hS18
 rw[e31,ex_put2]
 have s12:=hw12.size
 have s13:=hk13'.size
 have s14:=hw14.size
 have s1011:=hO11.kp.size
 have s9:=hw9.size
 have s10:=hk10.size
 have s8':=hk8'.size
 have l13:=block_lt hkn10.1
 have l8:=block_lt hkn10.2.1
 have l3:=block_lt hkn10.2.2
 have gno1:∀k,w11.heap.size≤k→k∉G1:=fun k hk hm=>by have:=gl11 _ hm;omega
 have gno2:∀k,w4.heap.size≤k→k<w10.heap.size→k∉G1:=fun k hk hk' hm=>(hO11.new k hm).elim (gno k hk) fun hge=>by omega
 have fin:KpL [] w w18∧∀b∈G2,w.heap.size≤b:=⟨(k011.trans k1117).more hO18.kp fun b hb=>.inr (hG1 b hb),fun b hb=>(hO18.new b hb).elim (hG1 b) fun hge=>Nat.le_trans (k011.trans k1117).size hge⟩
 refine⟨_,rfl,G1,hO18.kp,⟨⟨gno1 _ (by omega)⟩,⟨gno1 _ (by omega)⟩,⟨gno1 _ (by omega)⟩,⟨gno2 _ (by omega) l13⟩,⟨gno2 _ (by omega) l8⟩,⟨gno2 _ (by omega) l3⟩⟩,fun _=>⟨fin.1,d,s,G2,i,by simp,hS18,fin.2⟩⟩
theorem lworks_ok(w:World):Calls Tryz.prog 9 #[] w (PureR (.bool true) w):=by
 refine lworks_vc (u:=0) ⟨(lmade_ok (M:=[]) (by simp)).mono ?_⟩
 rintro e w1 ⟨hk1,d,s,G,i,rfl,hS,hG⟩
 refine⟨_,_,_,rfl,[],hk1,fun _=>?_,fun hc=>(by cases hc)⟩
 intro k1 hk1' w2 hw2 hkn2
 refine⟨(lat_ok (M:=[]) (by simp) (x:=0) (y:=0) (ini_i64.2 (by omega)) (ini_i64.2 (by omega)) (one_R (t:=tI .i64) (x:=(1:Int)) (M:=[]) hkn2 (by simp) ⟨rfl,ini_i64.2 (by omega)⟩)).mono ?_⟩
 rintro e w3 ⟨a3,k2,k3,a4,k4,k5,rfl,hk3,hc1⟩
 refine⟨_,_,_,_,_,_,rfl,hk3,fun k6 hk6 w4 hw4 hkn4=>?_⟩
 refine⟨(lat_ok (M:=[]) (by simp) (x:=1) (y:=0) (ini_i64.2 (by omega)) (ini_i64.2 (by omega)) (one_R (t:=tI .i64) (x:=(2:Int)) (M:=[]) hkn4.1 (by simp) ⟨rfl,ini_i64.2 (by omega)⟩)).mono ?_⟩
 rintro e w5 ⟨a5,k7,k8,a6,k9,k10,rfl,hk5,hc2⟩
 refine⟨_,_,_,_,_,_,rfl,hk5,fun k11 hk11 w6 hw6 hkn6=>?_⟩
 refine⟨(lat_ok (M:=[]) (by simp) (x:=3) (y:=1) (ini_i64.2 (by omega)) (ini_i64.2 (by omega)) (one_R (t:=tI .i64) (x:=(4:Int)) (M:=[]) hkn6.1 (by simp) ⟨rfl,ini_i64.2 (by omega)⟩)).mono ?_⟩
 rintro e w7 ⟨a7,k12,k13,a8,k14,k15,rfl,hk7,hc3⟩
 refine⟨_,_,_,_,_,_,rfl,hk7,fun k16 hk16 w8 hw8 hkn8=>?_⟩
 have k18:KpL [] w1 w8:=(((((hw2.trans hk3).trans hw4).trans hk5).trans hw6).trans hk7).trans hw8
 have hcs:R (tSl tCell) [] w8 [exC 0 0 1,exC 1 0 2,exC 3 1 4] [.slice (some ⟨k16,0,none⟩) 3 3] :=
  three_R (t:=tCell) (c1:=[_,_]) (c2:=[_,_]) (c3:=[_,_]) hkn8.1 (by simp) (hc1.kp0 ((((hw4.trans hk5).trans hw6).trans hk7).trans hw8)) (hc2.kp0 ((hw6.trans hk7).trans hw8)) (hc3.kp0 hw8)
 have hsort:CSorted [exC 0 0 1,exC 1 0 2,exC 3 1 4]:=by
  unfold CSorted
  simp only[List.pairwise_cons,List.mem_cons,List.not_mem_nil,or_false,forall_eq_or_imp,forall_eq,List.Pairwise.nil,and_true]
  exact⟨⟨by decide,by decide⟩,by decide,fun _ h=>h.elim⟩
 refine⟨(lhas_ok (hS.kp0 k18) hcs rfl (fun ys hp hs=>csorted_eq (by rw[ex_cells]at hp;exact hp) hs hsort) (by decide)).mono ?_⟩
 rintro e w9 ⟨rfl,hk9⟩
 refine⟨_,rfl,hk9,fun hc=>(by cases hc),fun _ _=>⟨((hS.kp0 k18).kp0 hk9).room.mono ?_⟩⟩
 rintro e w10 ⟨rfl,hk10⟩
 exact⟨_,_,rfl,hk10,fun _ _=>⟨rfl,((hk1.trans k18).trans hk9).trans hk10⟩,fun hc=>absurd (show(((64 - 2) / 2:Nat):Int) - 25=6 from rfl) hc⟩
end Go.Vc
namespace Go.Vc
open Go Go.Proofs
open Go.Value Go.Ending Go.IntKind
set_option maxRecDepth 100000
theorem lequal_vc{s:Nat}{t:Nat}{w:World}{R:Ending→World→Prop}
 (h :
 CallW Tryz.prog 16 #[pointer (some (Addr.mk s 0 none))] w fun e1 w1 =>
 ∃a1 k1 k2 n1,e1=returned (tuple #[slice a1 k1 k2,int i64 n1])∧
 KpL [] w w1∧
 CallW Tryz.prog 16 #[pointer (some (Addr.mk t 0 none))] w1 fun e2 w2 =>
 ∃a2 k3 k4 n2,e2=returned (tuple #[slice a2 k3 k4,int i64 n2])∧
 KpL [] w1 w2∧
 CallW Tryz.prog 30 #[pointer (some (Addr.mk s 0 none))] w2 fun e3 w3 =>
 ∃a3 k5 k6 n3,e3=returned (tuple #[slice a3 k5 k6,int i64 n3])∧
 KpL [] w2 w3∧
 CallW Tryz.prog 30 #[pointer (some (Addr.mk t 0 none))] w3 fun e4 w4 =>
 ∃a4 k7 k8 n4,e4=returned (tuple #[slice a4 k7 k8,int i64 n4])∧
 KpL [] w3 w4∧
 (¬n1≠0→
 (¬n2≠0→
 (¬n3≠0→
 (¬n4≠0→
 ((↑k1:Int)≠(↑k3:Int)→
 R (returned (Value.bool false)) w4)∧
 (¬(↑k1:Int)≠(↑k3:Int)→
 ∃(P1:List Value→World→Prop) (P2:List Value→World→Nat),P1 [int i64 0] w4∧
 ∀n5 w5,P1 [int i64 n5] w5→
 (n5<(↑k1:Int)→
 ∃d1,a1=some d1∧
 0≤n5∧
 n5<(↑k1:Int)∧
 ∃s1,LdA w5 ((d1.add (n5.toNat*4)).add 0) [string s1]∧
 ∃d2,a2=some d2∧
 0≤n5∧
 n5<(↑k3:Int)∧
 ∃s2,LdA w5 ((d2.add (n5.toNat*4)).add 0) [string s2]∧
 (¬s1≠s2→
 ∃d3,a1=some d3∧
 0≤n5∧
 n5<(↑k1:Int)∧
 ∃a5 k9 k10 a6 k11 k12 a7 k13 k14,LdA w5 ((d3.add (n5.toNat*4)).add 1) [slice a5 k9 k10,slice a6 k11 k12,slice a7 k13 k14]∧
 ∃d4,a2=some d4∧
 0≤n5∧
 n5<(↑k3:Int)∧
 ∃a8 k15 k16 a9 k17 k18 a10 k19 k20,LdA w5 ((d4.add (n5.toNat*4)).add 1) [slice a8 k15 k16,slice a9 k17 k18,slice a10 k19 k20]∧
 ∀w6,KpL [] w5 w6→
 CallW Tryz.prog 17 (#[agg #[slice a5 k9 k10,slice a6 k11 k12,slice a7 k13 k14],agg #[slice a8 k15 k16,slice a9 k17 k18,slice a10 k19 k20]]) w6 fun e5 w7 =>
 ∃b1,e5=returned (Value.bool b1)∧
 KpL [] w6 w7∧
 ((!b1)=true→
 R (returned (Value.bool false)) w7)∧
 ((!b1)=false→
 InI i64 (n5+1)∧
 P1 [int i64 (n5+1)] w7∧
 P2 [int i64 (n5+1)] w7<P2 [int i64 n5] w5))∧
 (s1≠s2→
 ∀w8,KpL [] w5 w8→
 R (returned (Value.bool false)) w8))∧
 (¬n5<(↑k1:Int)→
 CallW Tryz.prog 31 #[slice a3 k5 k6,slice a4 k7 k8] w5 fun e6 w9 =>
 ∃b2,e6=returned (Value.bool b2)∧
 KpL [] w5 w9∧
 R (returned (Value.bool b2)) w9)))∧
 (n4≠0→
 R (returned (Value.bool false)) w4))∧
 (n3≠0→
 R (returned (Value.bool false)) w4))∧
 (n2≠0→
 R (returned (Value.bool false)) w4))∧
 (n1≠0→
 R (returned (Value.bool false)) w4)):Calls Tryz.prog 41 #[pointer (some (Addr.mk s 0 none)),pointer (some (Addr.mk t 0 none))] w R :=
 fnc0 (an:={ loops:=[⟨8,[13],[4,55,56,57,58,59,60,61,62,63,64,65,66,67,68,69,70,71,72,73,74,75,76,77,78,79,80,81,82,83,84,85],[]⟩] }) (args:=[.a (.c (.v (.pointer (some ⟨s,0,none⟩)))),.a (.c (.v (.pointer (some ⟨t,0,none⟩))))]) Tryz_ok Tryz.func41 (by kernel_rfl) rfl rfl h
theorem lonlyIf_vc{s:Option Addr}{b:Bool}{w:World}{R:Ending→World→Prop}
 (h :
 (b=true→
 R (returned (pointer s)) w)∧
 (b=false→
 R (returned (pointer none)) w)):Calls Tryz.prog 99 #[pointer s,Value.bool b] w R :=
 fnc0 (an:={}) (args:=[.a (.c (.v (.pointer s))),.a (.c (.sb b))]) Tryz_ok Tryz.func99 (by kernel_rfl) rfl rfl h
theorem lagain_vc{d:Nat}{fa:Int}{pa:Option Addr}{pn pc:Nat}{fg:Int}{w:World}{R:Ending→World→Prop}
 (h :
 ∀k1,w.heap.size≤k1→
 ∀w1,KpL [] w w1→
 Hb w1 k1 #[int u16 fa,slice pa pn pc,int u8 fg] 35→
 CallW Tryz.prog 34 #[pointer (some (Addr.mk d 0 none))] w1 fun e1 w2 =>
 ∃n1,e1=returned (int i64 n1)∧
 ∃l1,KpL l1 w1 w2∧
 NotIn k1 l1∧
 (n1≠0→
 Hb w2 k1 #[int u16 fa,slice pa pn pc,int u8 fg] 35→
 R (returned (pointer none)) w2)∧
 (¬n1≠0→
 ∃(P1:List Value→World→Prop),(Hb w2 k1 #[int u16 fa,slice pa pn pc,int u8 fg] 35→
 (8:Int)≠(0:Int)∧
 (fg.tmod 8≠7→
 (8:Int)≠(0:Int)∧
 InI i64 (fg.tmod 8)∧
 (Hb w2 k1 #[int u16 fa,slice pa pn pc,int u8 fg] 35→
 CallW Tryz.prog 40 #[pointer (some (Addr.mk d 0 none)),int i64 (fg.tmod 8),slice pa pn pc] w2 fun e2 w3 =>
 ∃n2,e2=returned (int i64 n2)∧
 ∃l2,KpL l2 w2 w3∧
 NotIn k1 l2∧
 (Hb w3 k1 #[int u16 fa,slice pa pn pc,int u8 fg] 35→
 P1 [] w3)))∧
 (¬fg.tmod 8≠7→
 Hb w2 k1 #[int u16 fa,slice pa pn pc,int u8 fg] 35→
 P1 [] w2))∧
 ∀w4,P1 [] w4→
 Hb w4 k1 #[int u16 fa,slice pa pn pc,int u8 fg] 35→
 CallW Tryz.prog 15 #[pointer (some (Addr.mk d 0 none))] w4 fun e3 w5 =>
 ∃a1 n3,e3=returned (tuple #[pointer a1,int i64 n3])∧
 ∃l3,KpL l3 w4 w5∧
 NotIn k1 l3∧
 ∃(P2:List Value→World→Prop),(Hb w5 k1 #[int u16 fa,slice pa pn pc,int u8 fg] 35→
 (n3=17→
 Hb w5 k1 #[int u16 fa,slice pa pn pc,int u8 fg] 35→
 CallW Tryz.prog 38 #[pointer (some (Addr.mk d 0 none))] w5 fun e4 w6 =>
 ∃b1,e4=returned (Value.bool b1)∧
 KpL [] w5 w6∧
 (b1=true→
 Hb w6 k1 #[int u16 fa,slice pa pn pc,int u8 fg] 35→
 CallW Tryz.prog 34 #[pointer (some (Addr.mk d 0 none))] w6 fun e5 w7 =>
 ∃n4,e5=returned (int i64 n4)∧
 ∃l4,KpL l4 w6 w7∧
 NotIn k1 l4∧
 (n4≠0→
 Hb w7 k1 #[int u16 fa,slice pa pn pc,int u8 fg] 35→
 R (returned (pointer none)) w7)∧
 (¬n4≠0→
 Hb w7 k1 #[int u16 fa,slice pa pn pc,int u8 fg] 35→
 CallW Tryz.prog 15 #[pointer (some (Addr.mk d 0 none))] w7 fun e6 w8 =>
 ∃a2 n5,e6=returned (tuple #[pointer a2,int i64 n5])∧
 ∃l5,KpL l5 w7 w8∧
 NotIn k1 l5∧
 (Hb w8 k1 #[int u16 fa,slice pa pn pc,int u8 fg] 35→
 P2 [pointer a2,int i64 n5] w8)))∧
 (b1=false→
 Hb w6 k1 #[int u16 fa,slice pa pn pc,int u8 fg] 35→
 P2 [pointer a1,int i64 n3] w6))∧
 (¬n3=17→
 Hb w5 k1 #[int u16 fa,slice pa pn pc,int u8 fg] 35→
 P2 [pointer a1,int i64 n3] w5))∧
 ∀a3 n6 w9,P2 [pointer a3,int i64 n6] w9→
 (¬n6≠0→
 Hb w9 k1 #[int u16 fa,slice pa pn pc,int u8 fg] 35→
 CallW Tryz.prog 34 #[pointer (some (Addr.mk d 0 none))] w9 fun e7 w10 =>
 ∃n7,e7=returned (int i64 n7)∧
 ∃l6,KpL l6 w9 w10∧
 NotIn k1 l6∧
 (n7≠0→
 Hb w10 k1 #[int u16 fa,slice pa pn pc,int u8 fg] 35→
 R (returned (pointer none)) w10)∧
 (¬n7≠0→
 Hb w10 k1 #[int u16 fa,slice pa pn pc,int u8 fg] 35→
 R (returned (pointer a3)) w10))∧
 (n6≠0→
 Hb w9 k1 #[int u16 fa,slice pa pn pc,int u8 fg] 35→
 R (returned (pointer none)) w9))):Calls Tryz.prog 100 #[pointer (some (Addr.mk d 0 none)),agg #[int u16 fa,slice pa pn pc,int u8 fg]] w R :=
 fnc0 (an:={ cuts:=[⟨10,[5,6],[4,27,28,29,30,31,32,33,34,35,36,37,38,39,40],[]⟩,⟨5,[],[10,11,12,13,14,15,16,17,18,19,20,21],[]⟩],muts:=[34,40,15],all:=true }) (args:=[.a (.c (.v (.pointer (some ⟨d,0,none⟩)))),.a (.agg [.v (.int .u16 fa),.v (.slice pa pn pc),.v (.int .u8 fg)])]) Tryz_ok Tryz.func100 (by kernel_rfl) rfl rfl h
theorem lstep_vc{d:Nat}{s:Nat}{t:Nat}{tok:ByteArray}{stp:Int}{arn:ByteArray}{ca:Option Addr}{cn cc:Nat}{cmp fls:Bool}{fa:Int}{pa:Option Addr}{pn pc:Nat}{fg:Int}{w:World}{R:Ending→World→Prop}
 (h :
 ∀k1,w.heap.size≤k1→
 ∃(P1:List Value→World→Prop),(∀w1,KpL [] w w1→
 Hb w1 k1 #[string tok,int i64 stp,string arn,slice ca cn cc,Value.bool cmp,Value.bool fls,int u16 fa,slice pa pn pc,int u8 fg] 37→
 (fls=true→
 (400:Int)≠(0:Int)∧
 InI i64 (fa.tmod 400)∧
 (Hb w1 k1 #[string tok,int i64 stp,string arn,slice ca cn cc,Value.bool cmp,Value.bool fls,int u16 fa,slice pa pn pc,int u8 fg] 37→
 CallW Tryz.prog 40 #[pointer (some (Addr.mk d 0 none)),int i64 (fa.tmod 400),slice pa pn pc] w1 fun e1 w2 =>
 ∃n1,e1=returned (int i64 n1)∧
 ∃l1,KpL l1 w1 w2∧
 NotIn k1 l1∧
 (n1≠0→
 Hb w2 k1 #[string tok,int i64 stp,string arn,slice ca cn cc,Value.bool cmp,Value.bool fls,int u16 fa,slice pa pn pc,int u8 fg] 37→
 R (returned (pointer none)) w2)∧
 (¬n1≠0→
 Hb w2 k1 #[string tok,int i64 stp,string arn,slice ca cn cc,Value.bool cmp,Value.bool fls,int u16 fa,slice pa pn pc,int u8 fg] 37→
 P1 [] w2)))∧
 (fls=false→
 Hb w1 k1 #[string tok,int i64 stp,string arn,slice ca cn cc,Value.bool cmp,Value.bool fls,int u16 fa,slice pa pn pc,int u8 fg] 37→
 P1 [] w1))∧
 ∀w3,P1 [] w3→
 ∃(P2:List Value→World→Prop),(Hb w3 k1 #[string tok,int i64 stp,string arn,slice ca cn cc,Value.bool cmp,Value.bool fls,int u16 fa,slice pa pn pc,int u8 fg] 37→
 (cmp=true→
 Hb w3 k1 #[string tok,int i64 stp,string arn,slice ca cn cc,Value.bool cmp,Value.bool fls,int u16 fa,slice pa pn pc,int u8 fg] 37→
 CallW Tryz.prog 14 #[pointer (some (Addr.mk s 0 none))] w3 fun e2 w4 =>
 ∃n2,e2=returned (int i64 n2)∧
 ∃l2,KpL l2 w3 w4∧
 NotIn k1 l2∧
 (Hb w4 k1 #[string tok,int i64 stp,string arn,slice ca cn cc,Value.bool cmp,Value.bool fls,int u16 fa,slice pa pn pc,int u8 fg] 37→
 P2 [Value.bool false,int i64 n2] w4))∧
 (cmp=false→
 Hb w3 k1 #[string tok,int i64 stp,string arn,slice ca cn cc,Value.bool cmp,Value.bool fls,int u16 fa,slice pa pn pc,int u8 fg] 37→
 CallW Tryz.prog 13 (#[pointer (some (Addr.mk s 0 none)),agg #[string tok,int i64 stp,string arn,slice ca cn cc]]) w3 fun e3 w5 =>
 ∃b1 n3,e3=returned (tuple #[Value.bool b1,int i64 n3])∧
 ∃l3,KpL l3 w3 w5∧
 NotIn k1 l3∧
 (Hb w5 k1 #[string tok,int i64 stp,string arn,slice ca cn cc,Value.bool cmp,Value.bool fls,int u16 fa,slice pa pn pc,int u8 fg] 37→
 P2 [Value.bool b1,int i64 n3] w5)))∧
 ∀b2 n4 w6,P2 [Value.bool b2,int i64 n4] w6→
 Hb w6 k1 #[string tok,int i64 stp,string arn,slice ca cn cc,Value.bool cmp,Value.bool fls,int u16 fa,slice pa pn pc,int u8 fg] 37→
 CallW Tryz.prog 38 #[pointer (some (Addr.mk d 0 none))] w6 fun e4 w7 =>
 ∃b3,e4=returned (Value.bool b3)∧
 KpL [] w6 w7∧
 ((!b3)=true→
 Hb w7 k1 #[string tok,int i64 stp,string arn,slice ca cn cc,Value.bool cmp,Value.bool fls,int u16 fa,slice pa pn pc,int u8 fg] 37→
 CallW Tryz.prog 34 #[pointer (some (Addr.mk d 0 none))] w7 fun e5 w8 =>
 ∃n5,e5=returned (int i64 n5)∧
 ∃l4,KpL l4 w7 w8∧
 NotIn k1 l4∧
 (n5≠0→
 Hb w8 k1 #[string tok,int i64 stp,string arn,slice ca cn cc,Value.bool cmp,Value.bool fls,int u16 fa,slice pa pn pc,int u8 fg] 37→
 R (returned (pointer none)) w8)∧
 (¬n5≠0→
 (cmp=true→
 Hb w8 k1 #[string tok,int i64 stp,string arn,slice ca cn cc,Value.bool cmp,Value.bool fls,int u16 fa,slice pa pn pc,int u8 fg] 37→
 CallW Tryz.prog 99 #[pointer (some (Addr.mk s 0 none)),Value.bool (decide (n4=0))] w8 fun e6 w9 =>
 ∃a1,e6=returned (pointer a1)∧
 KpL [] w8 w9∧
 (Hb w9 k1 #[string tok,int i64 stp,string arn,slice ca cn cc,Value.bool cmp,Value.bool fls,int u16 fa,slice pa pn pc,int u8 fg] 37→
 R (returned (pointer a1)) w9))∧
 (cmp=false→
 Hb w8 k1 #[string tok,int i64 stp,string arn,slice ca cn cc,Value.bool cmp,Value.bool fls,int u16 fa,slice pa pn pc,int u8 fg] 37→
 CallW Tryz.prog 13 (#[pointer (some (Addr.mk t 0 none)),agg #[string tok,int i64 stp,string arn,slice ca cn cc]]) w8 fun e7 w10 =>
 ∃b4 n6,e7=returned (tuple #[Value.bool b4,int i64 n6])∧
 ∃l5,KpL l5 w8 w10∧
 NotIn k1 l5∧
 ((b2 == b4)=true→
 Hb w10 k1 #[string tok,int i64 stp,string arn,slice ca cn cc,Value.bool cmp,Value.bool fls,int u16 fa,slice pa pn pc,int u8 fg] 37→
 CallW Tryz.prog 99 #[pointer (some (Addr.mk s 0 none)),Value.bool (decide (n4=n6))] w10 fun e8 w11 =>
 ∃a2,e8=returned (pointer a2)∧
 KpL [] w10 w11∧
 (Hb w11 k1 #[string tok,int i64 stp,string arn,slice ca cn cc,Value.bool cmp,Value.bool fls,int u16 fa,slice pa pn pc,int u8 fg] 37→
 R (returned (pointer a2)) w11))∧
 ((b2 == b4)=false→
 Hb w10 k1 #[string tok,int i64 stp,string arn,slice ca cn cc,Value.bool cmp,Value.bool fls,int u16 fa,slice pa pn pc,int u8 fg] 37→
 CallW Tryz.prog 99 #[pointer (some (Addr.mk s 0 none)),Value.bool false] w10 fun e9 w12 =>
 ∃a3,e9=returned (pointer a3)∧
 KpL [] w10 w12∧
 (Hb w12 k1 #[string tok,int i64 stp,string arn,slice ca cn cc,Value.bool cmp,Value.bool fls,int u16 fa,slice pa pn pc,int u8 fg] 37→
 R (returned (pointer a3)) w12)))))∧
 ((!b3)=false→
 (¬n4≠17→
 (b2=true→
 Hb w7 k1 #[string tok,int i64 stp,string arn,slice ca cn cc,Value.bool cmp,Value.bool fls,int u16 fa,slice pa pn pc,int u8 fg] 37→
 R (returned (pointer none)) w7)∧
 (b2=false→
 Hb w7 k1 #[string tok,int i64 stp,string arn,slice ca cn cc,Value.bool cmp,Value.bool fls,int u16 fa,slice pa pn pc,int u8 fg] 37→
 CallW Tryz.prog 100 (#[pointer (some (Addr.mk d 0 none)),agg #[int u16 fa,slice pa pn pc,int u8 fg]]) w7 fun e10 w13 =>
 ∃a4,e10=returned (pointer a4)∧
 ∃l6,KpL l6 w7 w13∧
 NotIn k1 l6∧
 (¬a4=none→
 Hb w13 k1 #[string tok,int i64 stp,string arn,slice ca cn cc,Value.bool cmp,Value.bool fls,int u16 fa,slice pa pn pc,int u8 fg] 37→
 CallW Tryz.prog 41 #[pointer a4,pointer (some (Addr.mk t 0 none))] w13 fun e11 w14 =>
 ∃b5,e11=returned (Value.bool b5)∧
 KpL [] w13 w14∧
 (b5=true→
 Hb w14 k1 #[string tok,int i64 stp,string arn,slice ca cn cc,Value.bool cmp,Value.bool fls,int u16 fa,slice pa pn pc,int u8 fg] 37→
 R (returned (pointer a4)) w14)∧
 (b5=false→
 Hb w14 k1 #[string tok,int i64 stp,string arn,slice ca cn cc,Value.bool cmp,Value.bool fls,int u16 fa,slice pa pn pc,int u8 fg] 37→
 CallW Tryz.prog 13 (#[pointer (some (Addr.mk t 0 none)),agg #[string tok,int i64 stp,string arn,slice ca cn cc]]) w14 fun e12 w15 =>
 ∃b6 n7,e12=returned (tuple #[Value.bool b6,int i64 n7])∧
 ∃l7,KpL l7 w14 w15∧
 NotIn k1 l7∧
 ((!cmp)=true→
 (b6=true→
 (n7=0→
 Hb w15 k1 #[string tok,int i64 stp,string arn,slice ca cn cc,Value.bool cmp,Value.bool fls,int u16 fa,slice pa pn pc,int u8 fg] 37→
 CallW Tryz.prog 41 #[pointer a4,pointer (some (Addr.mk t 0 none))] w15 fun e13 w16 =>
 ∃b7,e13=returned (Value.bool b7)∧
 KpL [] w15 w16∧
 (Hb w16 k1 #[string tok,int i64 stp,string arn,slice ca cn cc,Value.bool cmp,Value.bool fls,int u16 fa,slice pa pn pc,int u8 fg] 37→
 CallW Tryz.prog 99 #[pointer a4,Value.bool b7] w16 fun e14 w17 =>
 ∃a5,e14=returned (pointer a5)∧
 KpL [] w16 w17∧
 (Hb w17 k1 #[string tok,int i64 stp,string arn,slice ca cn cc,Value.bool cmp,Value.bool fls,int u16 fa,slice pa pn pc,int u8 fg] 37→
 R (returned (pointer a5)) w17)))∧
 (¬n7=0→
 Hb w15 k1 #[string tok,int i64 stp,string arn,slice ca cn cc,Value.bool cmp,Value.bool fls,int u16 fa,slice pa pn pc,int u8 fg] 37→
 CallW Tryz.prog 99 #[pointer a4,Value.bool false] w15 fun e15 w18 =>
 ∃a6,e15=returned (pointer a6)∧
 KpL [] w15 w18∧
 (Hb w18 k1 #[string tok,int i64 stp,string arn,slice ca cn cc,Value.bool cmp,Value.bool fls,int u16 fa,slice pa pn pc,int u8 fg] 37→
 R (returned (pointer a6)) w18)))∧
 (b6=false→
 Hb w15 k1 #[string tok,int i64 stp,string arn,slice ca cn cc,Value.bool cmp,Value.bool fls,int u16 fa,slice pa pn pc,int u8 fg] 37→
 CallW Tryz.prog 99 #[pointer a4,Value.bool false] w15 fun e16 w19 =>
 ∃a7,e16=returned (pointer a7)∧
 KpL [] w15 w19∧
 (Hb w19 k1 #[string tok,int i64 stp,string arn,slice ca cn cc,Value.bool cmp,Value.bool fls,int u16 fa,slice pa pn pc,int u8 fg] 37→
 R (returned (pointer a7)) w19)))∧
 ((!cmp)=false→
 Hb w15 k1 #[string tok,int i64 stp,string arn,slice ca cn cc,Value.bool cmp,Value.bool fls,int u16 fa,slice pa pn pc,int u8 fg] 37→
 CallW Tryz.prog 99 #[pointer a4,Value.bool false] w15 fun e17 w20 =>
 ∃a8,e17=returned (pointer a8)∧
 KpL [] w15 w20∧
 (Hb w20 k1 #[string tok,int i64 stp,string arn,slice ca cn cc,Value.bool cmp,Value.bool fls,int u16 fa,slice pa pn pc,int u8 fg] 37→
 R (returned (pointer a8)) w20))))∧
 (a4=none→
 Hb w13 k1 #[string tok,int i64 stp,string arn,slice ca cn cc,Value.bool cmp,Value.bool fls,int u16 fa,slice pa pn pc,int u8 fg] 37→
 R (returned (pointer a4)) w13)))∧
 (n4≠17→
 Hb w7 k1 #[string tok,int i64 stp,string arn,slice ca cn cc,Value.bool cmp,Value.bool fls,int u16 fa,slice pa pn pc,int u8 fg] 37→
 R (returned (pointer none)) w7))):Calls Tryz.prog 43 #[pointer (some (Addr.mk d 0 none)),pointer (some (Addr.mk s 0 none)),pointer (some (Addr.mk t 0 none)),agg #[string tok,int i64 stp,string arn,slice ca cn cc,Value.bool cmp,Value.bool fls,int u16 fa,slice pa pn pc,int u8 fg]] w R :=
 fnc0 (an:={ cuts:=[⟨8,[9,10],[30,31,32,33,34,35,36,37,38,39,40],[]⟩,⟨3,[],[8,15,16,17,18,19,20,21,22,23,24,25,26,27,28,29],[]⟩],muts:=[13,14,40,34,100],all:=true }) (args:=[.a (.c (.v (.pointer (some ⟨d,0,none⟩)))),.a (.c (.v (.pointer (some ⟨s,0,none⟩)))),.a (.c (.v (.pointer (some ⟨t,0,none⟩)))),.a (.agg [.v (.string tok),.v (.int .i64 stp),.v (.string arn),.v (.slice ca cn cc),.sb cmp,.sb fls,.v (.int .u16 fa),.v (.slice pa pn pc),.v (.int .u8 fg)])]) Tryz_ok Tryz.func43 (by kernel_rfl) rfl rfl h
theorem gCrashes_vc{dba:Option Addr}{dbn dbc:Nat}{la:Option Addr}{ln lc:Nat}{w:World}{R:Ending→World→Prop}
 (h :
 CallW Tryz.prog 8 #[slice dba dbn dbc] w fun e1 w1 =>
 ∃b1,e1=returned (Value.bool b1)∧
 KpL [] w w1∧
 ((!b1)=false→
 CallW Tryz.prog 10 #[slice la ln lc] w1 fun e2 w2 =>
 ∃b2,e2=returned (Value.bool b2)∧
 KpL [] w1 w2∧
 ((!b2)=true→
 CallW Tryz.prog 9 #[] w2 fun e3 w3 =>
 ∃b3,e3=returned (Value.bool b3)∧
 KpL [] w2 w3∧
 R (returned (Value.bool b3)) w3)∧
 ((!b2)=false→
 CallW Tryz.prog 12 #[int i64 1024,slice dba dbn dbc] w2 fun e4 w4 =>
 ∃a1 a2 b4,e4=returned (tuple #[pointer a1,pointer a2,Value.bool b4])∧
 ∃l1,KpL l1 w2 w4∧
 CallW Tryz.prog 12 #[int i64 1024,slice dba dbn dbc] w4 fun e5 w5 =>
 ∃a3 a4 b5,e5=returned (tuple #[pointer a3,pointer a4,Value.bool b5])∧
 ∃l2,KpL l2 w4 w5∧
 ((!b4)=false→
 ((!b5)=true→
 ((b4 == b5)=true→
 CallW Tryz.prog 42 #[slice dba dbn dbc] w5 fun e6 w6 =>
 ∃n1,e6=returned (int i64 n1)∧
 KpL [] w5 w6∧
 (¬n1≠0→
 ((↑dbn:Int)=(0:Int)→
 CallW Tryz.prog 9 #[] w6 fun e7 w7 =>
 ∃b6,e7=returned (Value.bool b6)∧
 KpL [] w6 w7∧
 R (returned (Value.bool b6)) w7)∧
 (¬(↑dbn:Int)=(0:Int)→
 R (returned (Value.bool false)) w6))∧
 (n1≠0→
 CallW Tryz.prog 9 #[] w6 fun e8 w8 =>
 ∃b7,e8=returned (Value.bool b7)∧
 KpL [] w6 w8∧
 R (returned (Value.bool b7)) w8))∧
 ((b4 == b5)=false→
 R (returned (Value.bool false)) w5))∧
 ((!b5)=false→
 ∃(P1:List Value→World→Prop) (P2:List Value→World→Nat),P1 [pointer a2,int i64 0] w5∧
 ∀a5 n2 w9,P1 [pointer a5,int i64 n2] w9→
 (n2<(↑ln:Int)→
 ∃d1,la=some d1∧
 0≤n2∧
 n2<(↑ln:Int)∧
 ∃s1 n3 s2 a6 k1 k2 b8 b9 n4 a7 k3 k4 n5,LdA w9 (d1.add (n2.toNat*9)) [string s1,int i64 n3,string s2,slice a6 k1 k2,Value.bool b8,Value.bool b9,int u16 n4,slice a7 k3 k4,int u8 n5]∧
 CallW Tryz.prog 43 (#[pointer a1,pointer a5,pointer a4,agg #[string s1,int i64 n3,string s2,slice a6 k1 k2,Value.bool b8,Value.bool b9,int u16 n4,slice a7 k3 k4,int u8 n5]]) w9 fun e9 w10 =>
 ∃a8,e9=returned (pointer a8)∧
 ∃l3,KpL l3 w9 w10∧
 (¬a8=none→
 CallW Tryz.prog 41 #[pointer a8,pointer a4] w10 fun e10 w11 =>
 ∃b10,e10=returned (Value.bool b10)∧
 KpL [] w10 w11∧
 ((!b10)=true→
 R (returned (Value.bool false)) w11)∧
 ((!b10)=false→
 InI i64 (n2+1)∧
 P1 [pointer a8,int i64 (n2+1)] w11∧
 P2 [pointer a8,int i64 (n2+1)] w11<P2 [pointer a5,int i64 n2] w9))∧
 (a8=none→
 R (returned (Value.bool false)) w10))∧
 (¬n2<(↑ln:Int)→
 CallW Tryz.prog 9 #[] w9 fun e11 w12 =>
 ∃b11,e11=returned (Value.bool b11)∧
 KpL [] w9 w12∧
 R (returned (Value.bool b11)) w12)))∧
 ((!b4)=true→
 ((b4 == b5)=true→
 CallW Tryz.prog 42 #[slice dba dbn dbc] w5 fun e12 w13 =>
 ∃n6,e12=returned (int i64 n6)∧
 KpL [] w5 w13∧
 (¬n6≠0→
 ((↑dbn:Int)=(0:Int)→
 CallW Tryz.prog 9 #[] w13 fun e13 w14 =>
 ∃b12,e13=returned (Value.bool b12)∧
 KpL [] w13 w14∧
 R (returned (Value.bool b12)) w14)∧
 (¬(↑dbn:Int)=(0:Int)→
 R (returned (Value.bool false)) w13))∧
 (n6≠0→
 CallW Tryz.prog 9 #[] w13 fun e14 w15 =>
 ∃b13,e14=returned (Value.bool b13)∧
 KpL [] w13 w15∧
 R (returned (Value.bool b13)) w15))∧
 ((b4 == b5)=false→
 R (returned (Value.bool false)) w5))))∧
 ((!b1)=true→
 CallW Tryz.prog 9 #[] w1 fun e15 w16 =>
 ∃b14,e15=returned (Value.bool b14)∧
 KpL [] w1 w16∧
 R (returned (Value.bool b14)) w16)):Calls Tryz.prog 7 #[slice dba dbn dbc,slice la ln lc] w R :=
 fnc0 (an:={ loops:=[⟨8,[6,11],[4,55,56,57,58,59,60,61,62,63,64,65,66,67,68,69,70,71,72,73,74,75,76],[]⟩],muts:=[12,43] }) (args:=[.a (.c (.v (.slice dba dbn dbc))),.a (.c (.v (.slice la ln lc)))]) Tryz_ok Tryz.func7 (by kernel_rfl) rfl rfl h
end Go.Vc
namespace Go.Vc
open Go Go.Proofs
theorem On1.write0{k:Dk}(h:On1 k)(i:Nat)(b:List Int):(k.write i b).1=0:=by
 have hp:On1 (k.put i b):=h
 unfold Dk.write
 rw[if_neg (by simp[h.1]),hp.fails]
 rfl
theorem On1.note_eq{k:Dk}(h:On1 k)(num:Int):(k.note num).2.dur=(k.note num).2.now:=by
 unfold Dk.note
 rw[if_neg (by rw[h.write0];simp)]
 have h2:=h.write (num%2).toNat (noteOf num)
 unfold Dk.sync
 rw[if_neg (by simp[h2.1]),h2.fails,if_neg (by simp)]
theorem Lq.fmt{k:Dk}(h:Cl k)(h2:10≤k.n)(n1:k.n≤1024)(k0:0≤k.st){db:List Nm}(hdb:dbE db=0)(hne:db.length≠0)(hu:(fmtSto db).use≤k.half){ps':List (Pl×Sta)}(hp:ps'.Perm (fmtPl 0 db)):
 ∀i,i=k.st+1→Lq { (k.fmt (encBase (db.map fmtArr) [] ps')).2 with st:=i } 1 (0+1+secsOf (encBase (db.map fmtArr) [] ps')) { fmtSto db with id:=i }∧(k.fmt (encBase (db.map fmtArr) [] ps')).2.fuse = -1:=by
 rintro i rfl
 obtain⟨f1,f2,f3,f4,f5,f6⟩:=Lv.fmt h h2 n1 k0 hdb hne hu hp
 obtain⟨v,id,k0',n1',lo,hi,nx,_⟩:=f6 _ rfl
 have hhalf:k.half≤511:=by unfold Dk.half Dk.secs;omega
 have eu:(fmtSto db).use=1+8*((db.map fmtArr).length:Int)+3*((fmtPl 0 db).length:Int)+(([]:List Seen).length:Int):=rfl
 simp only[List.length_nil]at eu
 have hv:=fmtSto_ok hdb hne (by omega)
 have hs:=encBase_secs hv (ps:=ps') hp
 have hlen:=encBase_len hv (ps:=ps') hp
 have ea:(fmtSto db).arrays=db.map fmtArr:=rfl
 have eb:(fmtSto db).batches=[]:=rfl
 have ep:(fmtSto db).places=fmtPl 0 db:=rfl
 rw[ea,eb,ep]at hs hlen
 simp only[List.length_nil]at hs hlen
 have hpl:=hp.length_eq
 obtain⟨_,g2,g3,g4,_,_⟩:=DkS.format h h2 (arrays:=db.map fmtArr) (ps:=ps') (by omega) (by omega)
 obtain⟨z1,z2,z3,z4,z5,z6⟩:=h.zero
 obtain⟨a1,a2,_,_,_,_,_,_,_⟩:=z2.add (num:=1) (nxt:=0) (q:=1) (b:=encBase (db.map fmtArr) [] ps') (by omega) (by omega) (by rw[Dk.half_n z3];omega)
 have e:k.fmt (encBase (db.map fmtArr) [] ps')=(k.zero.2.add 1 0 1 (encBase (db.map fmtArr) [] ps')).2.note 1:=by unfold Dk.fmt;rw[if_neg (by simp[z1]),if_neg (by simp[a1])]
 have ho1:On1 (k.zero.2.add 1 0 1 (encBase (db.map fmtArr) [] ps')).2:=⟨a2.on,a2.fu⟩
 have he:(k.fmt (encBase (db.map fmtArr) [] ps')).2.dur=(k.fmt (encBase (db.map fmtArr) [] ps')).2.now:=by rw[e];exact ho1.note_eq 1
 have hz:secOf (k.fmt (encBase (db.map fmtArr) [] ps')).2.now (1 - ((1:Int)%2).toNat)=zeros:=by
  rcases g2.note.2 with g|⟨m,m0,m1,g⟩
  ·exact g
  ·have:m=0:=by omega
   rw[g,this]
   decide
 have q:=g2.q he hz rfl
 have hbase:StoV (baseSto (db.map fmtArr) [] ps'):=by
  refine⟨hv.a1,hv.an,hv.nms,hv.nd,hv.sch,hv.cel,hv.bn,hv.bat,hv.toks,?_,fun p hpp=>hv.pls p (hp.mem_iff.1 hpp),(hp.map _).nodup_iff.2 hv.keys,?_,?_⟩
  ·show ps'.length≤4000
   omega
  ·show(0:Int)≤1+8*(db.map fmtArr).length+3*ps'.length+(0:Nat)
   omega
  ·show(1:Int)+8*(db.map fmtArr).length+3*ps'.length+(0:Nat)≤100000
   omega
 refine⟨⟨v,id,k0',n1',lo,hi,nx,[],ps',[],⟨⟨⟨q.r.qt.on,q.r.qt.pe,q.r.qt.eq,q.r.qt.len⟩,q.r.n2,q.r.num0,q.r.num1,q.r.rd⟩,q.z⟩,hbase,by simp,rfl,rfl,hp,?_⟩,g2.cl.fu⟩
 show(1:Int)+8*(db.map fmtArr).length+3*ps'.length+(0:Nat)=(fmtSto db).use
 rw[eu,hpl]
def fxOf(n:Nat)(db:List Nm):Fx:=⟨db.map fmtArr,fmtPl 0 db,n⟩
theorem lformattedQ{M Mdb:List Nat}{w:World}(hM:∀b∈M,b<w.heap.size){n:Nat}(h1:64≤n)(h2:n≤1024){db:List Nm}{dba:Option Addr}{dbn dbc:Nat}(hd:R (tSl tNm) Mdb w db [.slice dba dbn dbc])(hp:(fmtPl 0 db).length≤4000):
 Calls Tryz.prog 12 #[.int .i64 n,.slice dba dbn dbc] w fun e w'=>KpL [] w w'∧if okDb n db then ∃d s G,e=.returned (.tuple #[.pointer (some ⟨d,0,none⟩),.pointer (some ⟨s,0,none⟩),.bool true])∧SysQ (fxOf n db) M w' s d true 1 (fmtSto db).use [] G∧∀b∈G,w.heap.size≤b
  else ∃a1 a2,e=.returned (.tuple #[.pointer a1,.pointer a2,.bool false]):=by
 have hcl:Cl (newDk n):=⟨rfl,rfl,by simp[newDk]⟩
 have en:(newDk n).n=n:=rfl
 have es:(newDk n).st=0:=rfl
 have eh:(newDk n).half=(n - 2) / 2:=rfl
 refine lformatted_vc ⟨(newDisk_ok hM h1 (by omega)).mono ?_⟩
 rintro e w1 ⟨d,Fd,rfl,hk1,hD,hnew⟩
 refine⟨_,_,rfl,hk1,⟨(sFormat_ok hD (hd.kp0 hk1) hp (by simp[newDk]) (by omega) fun g1 g2 g3 g4 ps' hps=>?_).mono ?_⟩⟩
 ·obtain⟨f1,f2,f3,f4,f5,f6⟩:=Lv.fmt hcl (by omega) h2 (by omega) g1 g2 g4 hps
  exact⟨fun _=>f4,fun _ _=>by rw[f5];simp,by rw[f2,es];exact ini_i64.2 (by omega)⟩
 intro e w2 hh
 split at hh
 ·rename_i hz
  obtain⟨rfl,hk2⟩:=hh
  refine⟨_,_,rfl,[],hk2,fun _=>⟨fun hc=>absurd hc (by omega),fun _=>⟨hk1.trans hk2,?_⟩⟩,fun hc=>absurd rfl hc⟩
  rw[if_neg]
  ·exact⟨_,_,rfl⟩
  ·rintro⟨g1,g2,_⟩;rcases hz with hz|hz
   ·exact hz g1
   ·exact g2 hz
 rename_i hz
 rw[if_neg (by simp[newDk]),eh]at hh
 split at hh
 ·rename_i hz2
  obtain⟨rfl,hk2⟩:=hh
  refine⟨_,_,rfl,[],hk2,fun _=>⟨fun hc=>absurd hc (by omega),fun _=>⟨hk1.trans hk2,?_⟩⟩,fun hc=>absurd rfl hc⟩
  rw[if_neg]
  ·exact⟨_,_,rfl⟩
  ·rintro⟨_,_,g3⟩;omega
 rename_i hz2
 obtain⟨ps',hps,hh⟩:=hh
 have g1:dbE db=0:=by omega
 have g2:db.length≠0:=fun hc=>hz (.inr hc)
 obtain⟨f1,f2,f3,f4,f5,f6⟩:=Lv.fmt hcl (by omega) h2 (by omega) g1 g2 (by rw[eh];omega) hps
 rw[if_neg (by simp[f1])]at hh
 obtain⟨s,l,F,Fd',rfl,h',hO⟩:=hh
 obtain⟨q1,q2⟩:=Lq.fmt hcl (by omega) h2 (by omega) g1 g2 (by rw[eh];omega) hps (((newDk n).fmt (encBase (db.map fmtArr) [] ps')).2.st+1) (by rw[f2])
 have hkG:KpL [] w w2:=hk1.more hO.kp fun b hb=>.inr (hnew b hb)
 refine⟨_,_,rfl,Fd,hO.kp,fun _=>⟨fun _=>⟨fun _=>⟨hkG,?_⟩,fun hc=>absurd (fun h=>by cases h) hc⟩,fun hc=>absurd rfl hc⟩,fun hc=>absurd rfl hc⟩
 rw[if_pos ⟨g1,g2,by omega⟩]
 refine⟨d,s,F++Fd',by simp,⟨l,1,_,_,F,Fd',_,h',q1,(Run.start (L:=[]) _).aft,Int.le_refl _,?_,f3,Int.le_refl _,by dsimp only;rw[f2,es];omega,fun _=>q2,rfl⟩,fun b hb=>?_⟩
 ·show(fmtSto db).use≤(halfN n:Nat)
  unfold halfN;omega
 ·rcases hO.new b hb with hb|hb
  ·exact hnew b hb
  ·exact Nat.le_trans hk1.size hb
theorem SysQ.st{X:Fx}{M G:List Nat}{w:World}{s d:Nat}{z:Bool}{m U:Int}{B:List Bt}(h:SysQ X M w s d z m U B G):∃st,StoV st∧Aft X.arrs X.P0 B st∧∀w',KpL [] w w'→
 (Calls Tryz.prog 16 #[.pointer (some ⟨s,0,none⟩)] w' fun e w''=>KpL [] w' w''∧∃out a q c,e=.returned (.tuple #[.slice a q c,.int .i64 0])∧out.length=st.arrays.length∧DbRel st.arrays st.places out∧R (tSl tNm) [] w'' out [.slice a q c])∧
 (Calls Tryz.prog 30 #[.pointer (some ⟨s,0,none⟩)] w' fun e w''=>∃a q c,e=.returned (.tuple #[.slice a q c,.int .i64 0])∧KpL [] w' w''∧R (tSl tS) [] w'' (B.map (·.token)) [.slice a q c]):=by
 obtain⟨l,num,nxt,k,F,Fd,st,hS,hL,hA,_⟩:=h
 refine⟨st,hL.v,hA,fun w' hk=>⟨?_,?_⟩⟩
 ·refine(sDB_ok (hS.kp0 hk).sto (hS.kp0 hk).dk hL.v (M:=[]) (by simp)).mono ?_
  rintro e w'' ⟨h1,h2⟩
  rw[if_neg (by simp[hL.ready])]at h2
  exact⟨h1,h2⟩
 ·have:=tokens_ok (N:=[]) (by simp) (hS.kp0 hk).sto (hS.kp0 hk).dk (by have:=hL.v.bn;omega)
  rw[hL.ready,if_neg (by simp),hA.bat,List.map_map]at this
  exact this
theorem strD{M:List Nat}{w:World}{v:ByteArray}{cs:List Value}(h:R tS M w v cs):cs=[.string v]:=h.1
theorem sameStrings_ok{M M':List Nat}{w:World}{xs ys:List ByteArray}{a b:Option Addr}{n c m q:Nat}(hx:R (tSl tS) M w xs [.slice a n c])(hy:R (tSl tS) M' w ys [.slice b m q]):Calls Tryz.prog 31 #[.slice a n c,.slice b m q] w (PureR (.bool (decide (xs=ys))) w):=by
 obtain⟨rfl,hn1,hn2⟩:=hx.sl_len
 obtain⟨rfl,hm1,hm2⟩:=hy.sl_len
 have hmx:maxSl=140737488355328:=rfl
 refine sameStrings_vc ⟨fun hne=>?_,fun he=>⟨fun vs w'=>∃i:Nat,vs=[.int .i64 (i:Int)]∧KpL [] w w'∧i≤xs.length∧xs.take i=ys.take i,fun vs _=>match vs with|[.int _ i]=>xs.length - i.toNat|_=>0,⟨0,rfl,KpL.refl _ _,by omega,by simp⟩,?_⟩⟩
 ·have:xs≠ys:=by rintro rfl;exact hne rfl
  rw[decide_eq_false this]
  exact⟨rfl,KpL.refl _ _⟩
 have hl:xs.length=ys.length:=by omega
 rintro n1 w1 ⟨i,hv,hk,hi,ht⟩
 simp only[List.cons.injEq,Value.int.injEq,true_and,and_true]at hv
 subst hv
 constructor
 ·intro hlt
  have h1:i<xs.length:=by omega
  have h2:i<ys.length:=by omega
  obtain⟨ad,cs,rfl,hv1,hld1,_,_⟩:=(hx.kp0 hk).sl_get h1
  obtain⟨ad2,cs2,rfl,hv2,hld2,_,_⟩:=(hy.kp0 hk).sl_get h2
  have e1:=strD hv1
  have e2:=strD hv2
  subst e1 e2
  refine⟨ad,rfl,by omega,hlt,_,hld1,ad2,rfl,by omega,by omega,_,hld2,fun hne w2 hw2=>?_,fun heq=>⟨ini_i64.2 (by omega),fun w3 hw3=>⟨⟨i+1,rfl,hk.trans hw3,by omega,take_eq h1 h2 ht (Classical.not_not.1 heq)⟩,by dsimp only;omega⟩⟩⟩
  rw[decide_eq_false (get_ne h1 h2 hne)]
  exact⟨rfl,hk.trans hw2⟩
 ·intro hge
  have:xs=ys:=by
   rw[←List.take_length (l:=xs),←List.take_length (l:=ys),←hl,show xs.length=i from by omega]
   exact ht
  rw[decide_eq_true this]
  exact⟨rfl,hk⟩
theorem lequal_ok{X:Fx}{M1 M2 G1 G2:List Nat}{w:World}{s t d1 d2:Nat}{z1 z2:Bool}{m1 m2 U1 U2:Int}{B1 B2:List Bt}(h1:SysQ X M1 w s d1 z1 m1 U1 B1 G1)(h2:SysQ X M2 w t d2 z2 m2 U2 B2 G2):
 Calls Tryz.prog 41 #[.pointer (some ⟨s,0,none⟩),.pointer (some ⟨t,0,none⟩)] w fun e w'=>∃b:Bool,e=.returned (.bool b)∧KpL [] w w'∧(B1=B2→b=true)∧(B1.length≠B2.length→b=false):=by
 have hmx:maxSl=140737488355328:=rfl
 obtain⟨s1,v1,A1,c1⟩:=h1.st
 obtain⟨s2,v2,A2,c2⟩:=h2.st
 have harr:s1.arrays=s2.arrays:=A1.arr.trans A2.arr.symm
 refine lequal_vc ⟨(c1 w (KpL.refl _ _)).1.mono ?_⟩
 rintro e w1 ⟨hw1,A,aa,am,aq,rfl,hAl,hAr,hAR⟩
 refine⟨_,_,_,_,rfl,hw1,⟨(c2 w1 hw1).1.mono ?_⟩⟩
 rintro e w2 ⟨hw2,B,ba,bm,bq,rfl,hBl,hBr,hBR⟩
 have k2:=hw1.trans hw2
 refine⟨_,_,_,_,rfl,hw2,⟨(c1 w2 k2).2.mono ?_⟩⟩
 rintro e w3 ⟨ta,tm,tq,rfl,hw3,hT1⟩
 refine⟨_,_,_,_,rfl,hw3,⟨(c2 w3 (k2.trans hw3)).2.mono ?_⟩⟩
 rintro e w4 ⟨ua,um,uq,rfl,hw4,hT2⟩
 have k4:=(k2.trans hw3).trans hw4
 obtain⟨rfl,_,_⟩:=hAR.sl_len
 obtain⟨rfl,_,_⟩:=hBR.sl_len
 have hAB:A.length=B.length:=by rw[hAl,hBl,harr]
 have no:∀{w':World},KpL [] w w'→¬B1=B2→∃b:Bool,Ending.returned (.bool false)=.returned (.bool b)∧KpL [] w w'∧(B1=B2→b=true)∧(B1.length≠B2.length→b=false):=fun hk hne=>⟨false,rfl,hk,fun hc=>absurd hc hne,fun _=>rfl⟩
 refine⟨_,_,_,_,rfl,hw4,fun _=>⟨fun _=>⟨fun _=>⟨fun _=>⟨fun hc=>absurd (by omega) hc,fun _=>?_⟩,fun hc=>absurd rfl hc⟩,fun hc=>absurd rfl hc⟩,fun hc=>absurd rfl hc⟩,fun hc=>absurd rfl hc⟩
 refine⟨fun vs w'=>∃i:Nat,vs=[.int .i64 (i:Int)]∧i≤A.length∧KpL [] w4 w',fun vs _=>match vs with|[.int _ i]=>A.length - i.toNat|_=>0,⟨0,rfl,by omega,KpL.refl _ _⟩,?_⟩
 rintro n17 w25 ⟨i,hv,hi,hk25⟩
 simp only[List.cons.injEq,Value.int.injEq,true_and,and_true]at hv
 subst hv
 constructor
 ·intro hlt
  have gA:i<A.length:=by omega
  have gB:i<B.length:=by omega
  have hsame:B1=B2→A[i].name=B[i].name∧sameA A[i].arr B[i].arr=true:=fun hB=>by
   subst hB
   exact db_eq v1 v2 harr (A1.same A2 fun b=>Iff.rfl) hAr hBr (List.getElem?_eq_getElem gA) (List.getElem?_eq_getElem gB)
  have hk24:=hw2.trans (hw3.trans hw4)
  obtain⟨ad,cs,rfl,hvA,_,_,_,hptA⟩:=((hAR.kp0 hk24).kp0 hk25).sl_get2 gA
  obtain⟨b1,p1,q1,b2,p2,q2,b3,p3,q3,rfl,_,x1,x2,x3⟩:=hvA.nm
  obtain⟨bd,cs',rfl,hvB,_,_,_,hptB⟩:=((hBR.kp0 (hw3.trans hw4)).kp0 hk25).sl_get2 gB
  obtain⟨e1,f1,g1,e2,f2,g2,e3,f3,g3,rfl,_,y1,y2,y3⟩:=hvB.nm
  refine⟨ad,rfl,by omega,hlt,_,hptA 0 [_] rfl,bd,rfl,by omega,by omega,_,hptB 0 [_] rfl,fun _=>⟨ad,rfl,by omega,hlt,_,_,_,_,_,_,_,_,_,hptA 1 [_,_,_] rfl,bd,rfl,by omega,by omega,_,_,_,_,_,_,_,_,_,hptB 1 [_,_,_] rfl,fun w26 hw26=>⟨(same_ok (x1.kp0 hw26) (x2.kp0 hw26) (x3.kp0 hw26) (y1.kp0 hw26) (y2.kp0 hw26) (y3.kp0 hw26)).mono ?_⟩⟩,fun hc w8 hw8=>no ((k4.trans hk25).trans hw8) fun hB=>hc (hsame hB).1⟩
  rintro e w27 ⟨rfl,hw27⟩
  exact⟨_,rfl,hw27,fun(hc:(!sameA A[i].arr B[i].arr)=true)=>no (((k4.trans hk25).trans hw26).trans hw27) fun hB=>(by rw[(hsame hB).2]at hc;cases hc),fun _=>⟨ini_i64.2 (by omega),⟨i+1,rfl,by omega,(hk25.trans hw26).trans hw27⟩,by dsimp only;omega⟩⟩
 ·intro _
  refine⟨(sameStrings_ok ((hT1.kp0 hw4).kp0 hk25) (hT2.kp0 hk25)).mono ?_⟩
  rintro e w9 ⟨rfl,hw9⟩
  refine⟨_,rfl,hw9,_,rfl,(k4.trans hk25).trans hw9,fun hB=>by rw[hB];simp,fun hne=>?_⟩
  rw[decide_eq_false]
  intro hc
  have:=congrArg List.length hc
  simp at this
  exact hne this
theorem lonlyIf_ok(s:Option Addr)(b:Bool)(w:World):Calls Tryz.prog 99 #[.pointer s,.bool b] w (PureR (.pointer (if b=true then s else none)) w) :=
 lonlyIf_vc ⟨fun hb=>by rw[if_pos hb];exact⟨rfl,KpL.refl _ _⟩,fun hb=>by rw[if_neg (by simp[hb])];exact⟨rfl,KpL.refl _ _⟩⟩
theorem lagain_ok{X:Fx}{M Mp G:List Nat}{w:World}{d:Nat}{m U:Int}{B:List Bt}(h:DskQ X M w d false true m U B G)(hm:m<800000){fa fg:Int}{ps:List Int}{pa:Option Addr}{pn pc:Nat}(hps:R (tSl (tI .u8)) (G++Mp) w ps [.slice pa pn pc])(hpl:ps.length≤256)(hfg:0≤fg):
 Calls Tryz.prog 100 #[.pointer (some ⟨d,0,none⟩),.agg #[.int .u16 fa,.slice pa pn pc,.int .u8 fg]] w fun e w'=>∃s G',Own G w G' w'∧e=.returned (.pointer (some ⟨s,0,none⟩))∧SysQ X M w' s d true (m+1) U B G':=by
 have hmod:0≤Int.tmod fg 8∧Int.tmod fg 8<8:=by rw[Int.tmod_eq_emod_of_nonneg hfg];omega
 refine lagain_vc fun k1 hk1 w1 hw1 hkn1=>⟨(h.kp0 hw1).restart.mono ?_⟩
 have hk1l:=block_lt hkn1
 have nin:∀{G':List Nat} {w':World},Own G w1 G' w'→NotIn k1 G':=fun hO=>⟨fun hm=>(hO.new k1 hm).elim (fun hb=>by have:=(h.own_lt k1 hb).1;omega) fun hge=>by omega⟩
 have fin:∀{G':List Nat} {w':World},Own G w1 G' w'→Own G w G' w':=fun hO=>(Own.of0 hw1).trans hO
 rintro e w2 ⟨rfl,G1,hO1,h1⟩
 refine⟨_,rfl,G,hO1.kp,nin (Own.refl _ _),fun hc=>absurd rfl hc,fun _=>?_⟩
 refine⟨fun vs w'=>∃z G',Own G w1 G' w'∧DskQ X M w' d true z m U B G',fun _=>⟨by omega,fun hne=>⟨by omega,ini_i64.2 (by omega),fun _=>⟨(h1.fuse (ini_i64.2 (by omega)) hmod.1 (hO1.data (hps.kp0 hw1)) hpl).mono ?_⟩⟩,fun _ _=>⟨true,G1,hO1,h1⟩⟩,?_⟩
 ·rintro e w3 ⟨rfl,G2,hO2,h2⟩
  exact⟨_,rfl,G1,hO2.kp,nin hO1,fun _=>⟨false,G2,hO1.trans hO2,h2⟩⟩
 rintro w4 ⟨z,G',hO4,h4⟩ hkn4
 refine⟨(h4.opn (by omega)).mono ?_⟩
 rintro e w5 ⟨G5,hO5,hres⟩
 have hO05:=hO4.trans hO5
 have out:∀(a3:Option Addr) (n6:Int) (w9:World),(∃s z G',[Value.pointer a3,Value.int .i64 n6]=[.pointer (some ⟨s,0,none⟩),.int .i64 0]∧Own G w1 G' w9∧SysQ X M w9 s d z (m+1) U B G')→
  (¬n6≠0→Hb w9 k1 #[Value.int .u16 fa,.slice pa pn pc,.int .u8 fg] 35→CallW Tryz.prog 34 #[.pointer (some (Addr.mk d 0 none))] w9 fun e7 w10=>∃n7,e7=.returned (.int .i64 n7)∧∃l6,KpL l6 w9 w10∧NotIn k1 l6∧
    (n7≠0→Hb w10 k1 #[Value.int .u16 fa,.slice pa pn pc,.int .u8 fg] 35→(fun(e:Ending) (w':World)=>∃s G',Own G w G' w'∧e=.returned (.pointer (some ⟨s,0,none⟩))∧SysQ X M w' s d true (m+1) U B G') (.returned (.pointer none)) w10)∧
    (¬n7≠0→Hb w10 k1 #[Value.int .u16 fa,.slice pa pn pc,.int .u8 fg] 35→(fun(e:Ending) (w':World)=>∃s G',Own G w G' w'∧e=.returned (.pointer (some ⟨s,0,none⟩))∧SysQ X M w' s d true (m+1) U B G') (.returned (.pointer a3)) w10))∧
  (n6≠0→Hb w9 k1 #[Value.int .u16 fa,.slice pa pn pc,.int .u8 fg] 35→(fun(e:Ending) (w':World)=>∃s G',Own G w G' w'∧e=.returned (.pointer (some ⟨s,0,none⟩))∧SysQ X M w' s d true (m+1) U B G') (.returned (.pointer none)) w9):=by
  rintro a3 n6 w9 ⟨s,z',G9,hv,hO9,h9⟩
  simp only[List.cons.injEq,Value.int.injEq,Value.pointer.injEq,true_and,and_true]at hv
  obtain⟨rfl,rfl⟩:=hv
  refine⟨fun _ _=>⟨h9.restart.mono ?_⟩,fun hc=>absurd rfl hc⟩
  rintro e w10 ⟨rfl,G10,hO10,h10⟩
  exact⟨_,rfl,G9,hO10.kp,nin hO9,fun hc=>absurd rfl hc,fun _ _=>⟨s,G10,fin (hO9.trans hO10),rfl,h10⟩⟩
 rcases hres with ⟨s,rfl,hS⟩|⟨hz,rfl,hD⟩
 ·exact⟨_,_,rfl,G',hO5.kp,nin hO4,fun vs w'=>∃s z G',vs=[.pointer (some ⟨s,0,none⟩),.int .i64 0]∧Own G w1 G' w'∧SysQ X M w' s d z (m+1) U B G',fun _=>⟨fun hc=>absurd hc (by omega),fun _ _=>⟨s,z,G5,rfl,hO05,hS⟩⟩,out⟩
 ·refine⟨_,_,rfl,G',hO5.kp,nin hO4,fun vs w'=>∃s z G',vs=[.pointer (some ⟨s,0,none⟩),.int .i64 0]∧Own G w1 G' w'∧SysQ X M w' s d z (m+1) U B G',fun _=>⟨fun _ _=>⟨hD.down.mono ?_⟩,fun hc=>absurd rfl hc⟩,out⟩
  rintro e w6 ⟨rfl,hw6⟩
  have hO06:=hO05.kp0 hw6
  refine⟨_,rfl,hw6,fun _ _=>⟨(hD.kp0 hw6).restart.mono ?_⟩,fun hc=>by simp at hc⟩
  rintro e w7 ⟨rfl,G7,hO7,h7⟩
  have hO07:=hO06.trans hO7
  refine⟨_,rfl,G5,hO7.kp,nin hO06,fun hc=>absurd rfl hc,fun _ _=>⟨(h7.opn (by omega)).mono ?_⟩⟩
  rintro e w8 ⟨G8,hO8,hres8⟩
  rcases hres8 with ⟨s,rfl,hS⟩|⟨hz8,_,_⟩
  ·exact⟨_,_,rfl,G7,hO8.kp,nin hO07,fun _=>⟨s,true,G8,rfl,hO07.trans hO8,hS⟩⟩
  ·cases hz8
end Go.Vc
namespace Go.Vc
open Go Go.Proofs
def Pair(X:Fx)(w:World)(s d:Nat)(z:Bool)(t:Nat)(m U:Int)(B C:List Bt)(G:List Nat):Prop :=
 ∃dt G1 G2,SysQ X G2 w s d z m U B G1∧SysQ X G1 w t dt true m U C G2∧G=G1++G2
def PairD(X:Fx)(w:World)(d:Nat)(t:Nat)(m U:Int)(B C:List Bt)(G:List Nat):Prop :=
 ∃dt G1 G2,DskQ X G2 w d false true m U B G1∧SysQ X G1 w t dt true m U C G2∧G=G1++G2
section
variable {X:Fx} {w w':World} {s d t dt:Nat} {z:Bool} {m U:Int} {B C:List Bt} {G G1 G1' G2 G2':List Nat}
theorem own_l(h:Own G1 w G1' w')(h2:∀b∈G2,b<w.heap.size):Own (G1++G2) w (G1'++G2) w' :=
 ⟨h.kp.mono fun x hx=>by simp[hx],fun x hx=>by
   rcases List.mem_append.1 hx with hx|hx
   ·exact(h.new x hx).imp (fun h=>by simp[h]) id
   ·exact .inl (by simp[hx])⟩
theorem own_r(h:Own G2 w G2' w'):Own (G1++G2) w (G1++G2') w' :=
 ⟨h.kp.mono fun x hx=>by simp[hx],fun x hx=>by
   rcases List.mem_append.1 hx with hx|hx
   ·exact .inl (by simp[hx])
   ·exact(h.new x hx).imp (fun h=>by simp[h]) id⟩
theorem SysQ.by(h:SysQ X G1 w t dt z m U C G2)(ho:Own G1 w G1' w')(hlt:∀b∈G1',b<w'.heap.size):SysQ X G1' w' t dt z m U C G2:=by
 have:=h.aside (M0:=[]) ho (by simp) hlt
 rwa [List.append_nil]at this
theorem DskQ.up{on:Bool}{M:List Nat}(h:DskQ X M w d on z m U B G){m' U':Int}(hm:m≤m')(hU:U≤U')(hU2:U'≤(halfN X.n:Nat)):DskQ X M w d on z m' U' B G:=by
 obtain⟨k,hD,a1,a2,a3,a4,a5,a6,a7,a8,a9,a10,a11,a12⟩:=h
 exact⟨k,hD,a1,a2,a3,a4,a5.mono hm hU,hU2,a7,a8,a9,a10,by omega,a12⟩
theorem Pair.kp0(h:Pair X w s d z t m U B C G)(k:KpL [] w w'):Pair X w' s d z t m U B C G:=by
 obtain⟨dt,G1,G2,h1,h2,rfl⟩:=h
 exact⟨dt,G1,G2,h1.kp0 k,h2.kp0 k,rfl⟩
theorem Pair.lt(h:Pair X w s d z t m U B C G):∀b∈G,b<w.heap.size:=by
 obtain⟨dt,G1,G2,h1,h2,rfl⟩:=h
 intro b hb
 rcases List.mem_append.1 hb with hb|hb
 ·exact(h1.own_lt b hb).1
 ·exact(h2.own_lt b hb).1
theorem PairD.kp0(h:PairD X w d t m U B C G)(k:KpL [] w w'):PairD X w' d t m U B C G:=by
 obtain⟨dt,G1,G2,h1,h2,rfl⟩:=h
 exact⟨dt,G1,G2,h1.kp0 k,h2.kp0 k,rfl⟩
theorem perm_R{α:Type}{t:Ty α}{w:World}{x:α}{cs:List Value}{A B C:List Nat}(h:R t ((A++B)++C) w x cs):R t (A++(B++C)) w x cs:=h.weak fun b hb=>by simpa[or_assoc]using hb
theorem swap_R{α:Type}{t:Ty α}{w:World}{x:α}{cs:List Value}{A B C:List Nat}(h:R t ((A++B)++C) w x cs):R t (B++(A++C)) w x cs:=h.weak fun b hb=>by
 simp only[List.mem_append]at hb ⊢
 rcases hb with hb|hb|hb
 ·exact .inl (.inr hb)
 ·exact .inl (.inl hb)
 ·exact .inr hb
theorem Pair.put(h:Pair X w s d z t m U B C G){Mc:List Nat}{b:Bt}{ca:Option Addr}{cn cc:Nat}(hc:R (tSl tCell) (G++Mc) w b.changes [.slice ca cn cc])(hU:U+b.weight≤(halfN X.n:Nat)):
 Calls Tryz.prog 13 #[.pointer (some ⟨s,0,none⟩),.agg #[.string b.token,.int .i64 b.stamp,.string b.array,.slice ca cn cc]] w fun e w'=>∃G',Own G w G' w'∧
  ((e=.returned (.tuple #[.bool (ansE X.arrs B b).1,.int .i64 (ansE X.arrs B b).2])∧Pair X w' s d z t m (U+b.weight) (Taken B b (ansE X.arrs B b).1) C G')∨
   (z=false∧(ansE X.arrs B b).1=true∧e=.returned (.tuple #[.bool false,.int .i64 17])∧(PairD X w' d t m (U+b.weight) B C G'∨PairD X w' d t m (U+b.weight) (B++[b]) C G'))):=by
 have hw:0≤b.weight:=by unfold Bt.weight;omega
 obtain⟨dt,G1,G2,h1,h2,rfl⟩:=h
 refine(h1.put (perm_R hc) hU).mono ?_
 rintro e w' ⟨G1',hO,hres⟩
 refine⟨G1'++G2,own_l hO fun b hb=>(h2.own_lt b hb).1,?_⟩
 rcases hres with ⟨rfl,g⟩|⟨g1,g2,rfl,g|g⟩
 ·exact .inl ⟨rfl,dt,G1',G2,g,(h2.by hO fun b hb=>(g.own_lt b hb).1).up (Int.le_refl _) (by omega) hU,rfl⟩
 ·exact .inr ⟨g1,g2,rfl,.inl ⟨dt,G1',G2,g,(h2.by hO fun b hb=>(g.own_lt b hb).1).up (Int.le_refl _) (by omega) hU,rfl⟩⟩
 ·exact .inr ⟨g1,g2,rfl,.inr ⟨dt,G1',G2,g,(h2.by hO fun b hb=>(g.own_lt b hb).1).up (Int.le_refl _) (by omega) hU,rfl⟩⟩
theorem Pair.put2(h:Pair X w s d z t m U B C G){Mc:List Nat}{b:Bt}{ca:Option Addr}{cn cc:Nat}(hc:R (tSl tCell) (G++Mc) w b.changes [.slice ca cn cc])(hU:U+b.weight≤(halfN X.n:Nat)):
 Calls Tryz.prog 13 #[.pointer (some ⟨t,0,none⟩),.agg #[.string b.token,.int .i64 b.stamp,.string b.array,.slice ca cn cc]] w fun e w'=>∃G',Own G w G' w'∧
  e=.returned (.tuple #[.bool (ansE X.arrs C b).1,.int .i64 (ansE X.arrs C b).2])∧Pair X w' s d z t m (U+b.weight) B (Taken C b (ansE X.arrs C b).1) G':=by
 have hw:0≤b.weight:=by unfold Bt.weight;omega
 obtain⟨dt,G1,G2,h1,h2,rfl⟩:=h
 refine(h2.put (swap_R hc) hU).mono ?_
 rintro e w' ⟨G2',hO,hres⟩
 refine⟨G1++G2',own_r hO,?_⟩
 rcases hres with ⟨rfl,g⟩|⟨g1,_⟩
 ·exact⟨rfl,dt,G1,G2',(h1.by hO fun b hb=>(g.own_lt b hb).1).up (Int.le_refl _) (by omega) hU,g,rfl⟩
 ·cases g1
theorem Pair.cmp(h:Pair X w s d z t m U B C G)(hm:m<900000):Calls Tryz.prog 14 #[.pointer (some ⟨s,0,none⟩)] w fun e w'=>∃G',Own G w G' w'∧
 ((e=.returned (.int .i64 0)∧Pair X w' s d z t (m+1) U B C G')∨(z=false∧e=.returned (.int .i64 17)∧PairD X w' d t (m+1) U B C G')):=by
 obtain⟨dt,G1,G2,h1,h2,rfl⟩:=h
 have hU:U≤(halfN X.n:Nat):=by
  obtain⟨_,_,_,_,_,_,_,_,_,_,_,hh,_⟩:=h1
  exact hh
 refine(h1.cmp hm).mono ?_
 rintro e w' ⟨G1',hO,hres⟩
 refine⟨G1'++G2,own_l hO fun b hb=>(h2.own_lt b hb).1,?_⟩
 rcases hres with ⟨rfl,g⟩|⟨g1,rfl,g⟩
 ·exact .inl ⟨rfl,dt,G1',G2,g,(h2.by hO fun b hb=>(g.own_lt b hb).1).up (by omega) (Int.le_refl _) hU,rfl⟩
 ·exact .inr ⟨g1,rfl,dt,G1',G2,g,(h2.by hO fun b hb=>(g.own_lt b hb).1).up (by omega) (Int.le_refl _) hU,rfl⟩
theorem Pair.fuse(h:Pair X w s d z t m U B C G){Mb:List Nat}{i:Int}{ps:List Int}{ba:Option Addr}{bl bc:Nat}(hi:InI .i64 i)(h0:0≤i)(hps:R (tSl (tI .u8)) Mb w ps [.slice ba bl bc])(hpl:ps.length≤256):
 Calls Tryz.prog 40 #[.pointer (some ⟨d,0,none⟩),.int .i64 i,.slice ba bl bc] w fun e w'=>e=.returned (.int .i64 0)∧∃G',Own G w G' w'∧Pair X w' s d false t m U B C G':=by
 obtain⟨dt,G1,G2,h1,h2,rfl⟩:=h
 refine(h1.fuse hi h0 hps hpl).mono ?_
 rintro e w' ⟨rfl,G1',hO,g⟩
 exact⟨rfl,G1'++G2,own_l hO fun b hb=>(h2.own_lt b hb).1,dt,G1',G2,g,h2.by hO fun b hb=>(g.own_lt b hb).1,rfl⟩
theorem Pair.restart(h:Pair X w s d z t m U B C G):Calls Tryz.prog 34 #[.pointer (some ⟨d,0,none⟩)] w fun e w'=>e=.returned (.int .i64 0)∧∃G',Own G w G' w'∧Pair X w' s d true t m U B C G':=by
 obtain⟨dt,G1,G2,h1,h2,rfl⟩:=h
 refine h1.restart.mono ?_
 rintro e w' ⟨rfl,G1',hO,g⟩
 exact⟨rfl,G1'++G2,own_l hO fun b hb=>(h2.own_lt b hb).1,dt,G1',G2,g,h2.by hO fun b hb=>(g.own_lt b hb).1,rfl⟩
theorem Pair.down(h:Pair X w s d z t m U B C G):Calls Tryz.prog 38 #[.pointer (some ⟨d,0,none⟩)] w (PureR (.bool false) w):=by
 obtain⟨dt,G1,G2,h1,h2,rfl⟩:=h
 exact h1.down
theorem PairD.down(h:PairD X w d t m U B C G):Calls Tryz.prog 38 #[.pointer (some ⟨d,0,none⟩)] w (PureR (.bool true) w):=by
 obtain⟨dt,G1,G2,h1,h2,rfl⟩:=h
 exact h1.down
theorem PairD.again(h:PairD X w d t m U B C G)(hm:m<800000){Mp:List Nat}{fa fg:Int}{ps:List Int}{pa:Option Addr}{pn pc:Nat}(hps:R (tSl (tI .u8)) (G++Mp) w ps [.slice pa pn pc])(hpl:ps.length≤256)(hfg:0≤fg):
 Calls Tryz.prog 100 #[.pointer (some ⟨d,0,none⟩),.agg #[.int .u16 fa,.slice pa pn pc,.int .u8 fg]] w fun e w'=>∃s G',Own G w G' w'∧e=.returned (.pointer (some ⟨s,0,none⟩))∧Pair X w' s d true t (m+1) U B C G':=by
 obtain⟨dt,G1,G2,h1,h2,rfl⟩:=h
 have hU:U≤(halfN X.n:Nat):=by
  obtain⟨_,_,_,_,_,_,_,hh,_⟩:=h1
  exact hh
 refine(lagain_ok h1 hm (perm_R hps) hpl hfg).mono ?_
 rintro e w' ⟨s,G1',hO,rfl,g⟩
 exact⟨s,G1'++G2,own_l hO fun b hb=>(h2.own_lt b hb).1,rfl,dt,G1',G2,g,(h2.by hO fun b hb=>(g.own_lt b hb).1).up (by omega) (Int.le_refl _) hU,rfl⟩
theorem Pair.equal(h:Pair X w s d z t m U B C G):Calls Tryz.prog 41 #[.pointer (some ⟨s,0,none⟩),.pointer (some ⟨t,0,none⟩)] w fun e w'=>∃b:Bool,e=.returned (.bool b)∧KpL [] w w'∧(B=C→b=true)∧(B.length≠C.length→b=false):=by
 obtain⟨dt,G1,G2,h1,h2,rfl⟩:=h
 exact lequal_ok h1 h2
theorem Pair.up(h:Pair X w s d z t m U B C G){m' U':Int}(hm:m≤m')(hU:U≤U')(hU2:U'≤(halfN X.n:Nat)):Pair X w s d z t m' U' B C G:=by
 obtain⟨dt,G1,G2,h1,h2,rfl⟩:=h
 exact⟨dt,G1,G2,h1.up hm hU hU2,h2.up hm hU hU2,rfl⟩
end
theorem PairD.up{X:Fx}{w:World}{d t:Nat}{m U:Int}{B C:List Bt}{G:List Nat}(h:PairD X w d t m U B C G){m' U':Int}(hm:m≤m')(hU:U≤U')(hU2:U'≤(halfN X.n:Nat)):PairD X w d t m' U' B C G:=by
 obtain⟨dt,G1,G2,h1,h2,rfl⟩:=h
 exact⟨dt,G1,G2,h1.up hm hU hU2,h2.up hm hU hU2,rfl⟩
theorem ansE_true{arrs:List Nm}{B:List Bt}{b:Bt}(h:(ansE arrs B b).1=true):(ansE arrs B b).2=0:=by
 unfold ansE at *
 split at h
 ·cases h
 ·rename_i h1
  rw[if_neg h1]
  split at h
  ·cases h
  ·rename_i h2
   rw[if_neg h2]
set_option maxHeartbeats 4000000 in
theorem lstep_ok{X:Fx}{w:World}{s d t:Nat}{m U:Int}{B:List Bt}{G Mc:List Nat}(h:Pair X w s d true t m U B B G)(hm:m<700000){x:Stp}{ca pa:Option Addr}{cn cc pn pc:Nat}(hc:R (tSl tCell) (G++Mc) w x.b.changes [.slice ca cn cc])(hps:R (tSl (tI .u8)) (G++Mc) w x.fall.picks [.slice pa pn pc])
 (h4:x.b.changes.length≤4)(hpl:x.fall.picks.length≤200)(hfa:0≤x.fall.after)(hfg:0≤x.fall.again)(hU:U+28≤(halfN X.n:Nat)):
 Calls Tryz.prog 43 #[.pointer (some ⟨d,0,none⟩),.pointer (some ⟨s,0,none⟩),.pointer (some ⟨t,0,none⟩),.agg #[.string x.b.token,.int .i64 x.b.stamp,.string x.b.array,.slice ca cn cc,.bool x.compact,.bool x.fails,.int .u16 x.fall.after,.slice pa pn pc,.int .u8 x.fall.again]] w
  fun e w'=>∃s' G' B',Own G w G' w'∧e=.returned (.pointer (some ⟨s',0,none⟩))∧Pair X w' s' d true t (m+2) (U+28) B' B' G':=by
 have hw0:0≤x.b.weight:=by unfold Bt.weight;omega
 have hw1:x.b.weight≤14:=by unfold Bt.weight;omega
 have hmod:0≤Int.tmod x.fall.after 400∧Int.tmod x.fall.after 400<400:=by rw[Int.tmod_eq_emod_of_nonneg hfa];omega
 have hi400:InI .i64 (Int.tmod x.fall.after 400):=ini_i64.2 (by omega)
 refine lstep_vc fun k1 hk1=>⟨fun vs w'=>∃w1 z G',KpL [] w w1∧k1<w1.heap.size∧Own G w1 G' w'∧Pair X w' s d z t m U B B G',fun w1 hw1 hkn1=>⟨fun _=>⟨by omega,hi400,fun _=>⟨((h.kp0 hw1).fuse hi400 hmod.1 (hps.kp0 hw1) (by omega)).mono ?_⟩⟩,fun _ _=>⟨w1,true,G,hw1,block_lt hkn1,Own.refl _ _,h.kp0 hw1⟩⟩,?_⟩
 ·rintro e w2 ⟨rfl,G',hO,hP⟩
  exact⟨_,rfl,G,hO.kp,⟨fun hm=>by have:=h.lt k1 hm;omega⟩,fun hc=>absurd rfl hc,fun _ _=>⟨w1,false,G',hw1,block_lt hkn1,hO,hP⟩⟩
 rintro w3 ⟨w1,z,G3,hw1,hk1l,hO3,hP3⟩
 have nin:∀{G':List Nat} {w':World},Own G w1 G' w'→NotIn k1 G':=fun hO=>⟨fun hm=>(hO.new k1 hm).elim (fun hb=>by have:=h.lt k1 hb;omega) fun hge=>by omega⟩
 have fin:∀{G':List Nat} {w':World},Own G w1 G' w'→Own G w G' w':=fun hO=>(Own.of0 hw1).trans hO
 have hc3:=hO3.data (hc.kp0 hw1)
 have hps3:=hO3.data (hps.kp0 hw1)
 refine⟨fun vs w'=>∃G',Own G w1 G' w'∧R (tSl tCell) (G'++Mc) w' x.b.changes [.slice ca cn cc]∧R (tSl (tI .u8)) (G'++Mc) w' x.fall.picks [.slice pa pn pc]∧
  ((∃z b n B',vs=[.bool b,.int .i64 n]∧Pair X w' s d z t (m+1) (U+x.b.weight) B' B G'∧((x.compact=true∧b=false∧n=0∧B'=B)∨(x.compact=false∧b=(ansE X.arrs B x.b).1∧n=(ansE X.arrs B x.b).2∧B'=Taken B x.b (ansE X.arrs B x.b).1)))∨
   (∃B',vs=[.bool false,.int .i64 17]∧PairD X w' d t (m+1) (U+x.b.weight) B' B G'∧(B'=B∨(x.compact=false∧(ansE X.arrs B x.b).1=true∧B'=B++[x.b])))),
  fun _=>⟨fun hcm _=>⟨(hP3.cmp (by omega)).mono ?_⟩,fun hcm _=>⟨(hP3.put hc3 (by omega)).mono ?_⟩⟩,?_⟩
 ·rintro e w4 ⟨G4,hO4,hres⟩
  have hO:=hO3.trans hO4
  rcases hres with ⟨rfl,g⟩|⟨_,rfl,g⟩
  ·exact⟨_,rfl,G3,hO4.kp,nin hO3,fun _=>⟨G4,hO,hO4.data hc3,hO4.data hps3,.inl ⟨z,false,0,B,rfl,g.up (by omega) (by omega) (by omega),.inl ⟨hcm,rfl,rfl,rfl⟩⟩⟩⟩
  ·exact⟨_,rfl,G3,hO4.kp,nin hO3,fun _=>⟨G4,hO,hO4.data hc3,hO4.data hps3,.inr ⟨B,rfl,g.up (by omega) (by omega) (by omega),.inl rfl⟩⟩⟩
 ·rintro e w5 ⟨G5,hO5,hres⟩
  have hO:=hO3.trans hO5
  rcases hres with ⟨rfl,g⟩|⟨_,g2,rfl,g|g⟩
  ·exact⟨_,_,rfl,G3,hO5.kp,nin hO3,fun _=>⟨G5,hO,hO5.data hc3,hO5.data hps3,.inl ⟨z,_,_,_,rfl,g.up (by omega) (by omega) (by omega),.inr ⟨hcm,rfl,rfl,rfl⟩⟩⟩⟩
  ·exact⟨_,_,rfl,G3,hO5.kp,nin hO3,fun _=>⟨G5,hO,hO5.data hc3,hO5.data hps3,.inr ⟨B,rfl,g.up (by omega) (by omega) (by omega),.inl rfl⟩⟩⟩
  ·exact⟨_,_,rfl,G3,hO5.kp,nin hO3,fun _=>⟨G5,hO,hO5.data hc3,hO5.data hps3,.inr ⟨B++[x.b],rfl,g.up (by omega) (by omega) (by omega),.inr ⟨hcm,g2,rfl⟩⟩⟩⟩
 rintro b2 n4 w6 ⟨G6,hO6,hc6,hps6,hcase⟩ hkn6
 rcases hcase with ⟨z6,b,n,B',hv,hP6,hB'⟩|⟨B',hv,hD6,hB'⟩
 ·
  simp only[List.cons.injEq,Value.int.injEq,Value.bool.injEq,true_and,and_true]at hv
  obtain⟨rfl,rfl⟩:=hv
  refine⟨hP6.down.mono ?_⟩
  rintro e w7 ⟨rfl,hw7⟩
  have hO7:=hO6.kp0 hw7
  refine⟨_,rfl,hw7,fun _ _=>⟨(hP6.kp0 hw7).restart.mono ?_⟩,fun hc=>(by simp at hc)⟩
  rintro e w8 ⟨rfl,G8,hO8,hP8⟩
  have hO08:=hO7.trans hO8
  refine⟨_,rfl,G6,hO8.kp,nin hO7,fun hc=>absurd rfl hc,fun _=>⟨fun hcm _=>?_,fun hcm _=>?_⟩⟩
  ·rcases hB' with ⟨_,_,rfl,rfl⟩|⟨h0,_⟩
   ·refine⟨(lonlyIf_ok _ _ w8).mono ?_⟩
    rintro e w9 ⟨rfl,hw9⟩
    exact⟨_,rfl,hw9,fun _=>⟨s,G8,B',fin (hO08.kp0 hw9),by simp,(hP8.kp0 hw9).up (by omega) (by omega) hU⟩⟩
   ·rw[hcm]at h0;cases h0
  ·rcases hB' with ⟨h0,_⟩|⟨_,rfl,rfl,rfl⟩
   ·rw[hcm]at h0;cases h0
   ·refine⟨(hP8.put2 (hO8.data (hc6.kp0 hw7)) (by omega)).mono ?_⟩
    rintro e w10 ⟨G10,hO10,rfl,hP10⟩
    refine⟨_,_,rfl,G8,hO10.kp,nin hO08,fun _ _=>⟨(lonlyIf_ok _ _ w10).mono ?_⟩,fun hc=>(by simp at hc)⟩
    rintro e w11 ⟨rfl,hw11⟩
    exact⟨_,rfl,hw11,fun _=>⟨s,G10,_,fin ((hO08.trans hO10).kp0 hw11),by simp,(hP10.kp0 hw11).up (by omega) (by omega) hU⟩⟩
 ·
  simp only[List.cons.injEq,Value.int.injEq,Value.bool.injEq,true_and,and_true]at hv
  obtain⟨rfl,rfl⟩:=hv
  refine⟨hD6.down.mono ?_⟩
  rintro e w7 ⟨rfl,hw7⟩
  have hO7:=hO6.kp0 hw7
  refine⟨_,rfl,hw7,fun hc=>(by simp at hc),fun _=>⟨fun _=>⟨fun hc=>(by cases hc),fun _ _=>⟨((hD6.kp0 hw7).again (by omega) (hps6.kp0 hw7) (by omega) hfg).mono ?_⟩⟩,fun hc=>absurd rfl hc⟩⟩
  rintro e w13 ⟨s',G13,hO13,rfl,hP13⟩
  have hO013:=hO7.trans hO13
  refine⟨_,rfl,G6,hO13.kp,nin hO7,fun _ _=>⟨hP13.equal.mono ?_⟩,fun hc=>(by cases hc)⟩
  rintro e w14 ⟨b5,rfl,hw14,he1,he2⟩
  have hO014:=hO013.kp0 hw14
  rcases hB' with rfl|⟨hcm,hans,rfl⟩
  ·refine⟨_,rfl,hw14,fun _ _=>⟨s',G13,B',fin hO014,rfl,(hP13.kp0 hw14).up (by omega) (by omega) hU⟩,fun hb=>?_⟩
   rw[he1 rfl]at hb
   cases hb
  ·have hb5:b5=false:=he2 (by simp)
   refine⟨_,rfl,hw14,fun hb=>(by rw[hb5]at hb;cases hb),fun _ _=>⟨((hP13.kp0 hw14).put2 ((hO13.data (hc6.kp0 hw7)).kp0 hw14) (by omega)).mono ?_⟩⟩
   rintro e w15 ⟨G15,hO15,rfl,hP15⟩
   have hO015:=hO014.trans hO15
   have hTk:Taken B x.b (ansE X.arrs B x.b).1=B++[x.b]:=by unfold Taken;rw[if_pos hans]
   rw[hTk]at hP15
   refine⟨_,_,rfl,G13,hO15.kp,nin hO014,fun _=>⟨fun _=>⟨fun _ _=>⟨hP15.equal.mono ?_⟩,fun hne=>absurd (ansE_true hans) hne⟩,fun hb6=>(by rw[hans]at hb6;cases hb6)⟩,fun hc=>(by rw[hcm]at hc;cases hc)⟩
   rintro e w16 ⟨b7,rfl,hw16,he1',_⟩
   refine⟨_,rfl,hw16,fun _=>⟨(lonlyIf_ok _ _ w16).mono ?_⟩⟩
   rintro e w17 ⟨rfl,hw17⟩
   exact⟨_,rfl,hw17,fun _=>⟨s',G15,B++[x.b],fin ((hO015.kp0 hw16).kp0 hw17),by rw[he1' rfl];simp,((hP15.kp0 hw16).kp0 hw17).up (by omega) (by omega) hU⟩⟩
end Go.Vc
namespace Go.Vc
open Go Go.Proofs
theorem R.stpI{M:List Nat}{w:World}{s:Stp}{cs:List Value}(h:R tStp M w s cs):0≤s.fall.after∧0≤s.fall.again:=by
 obtain⟨x,y,rfl,hb,⟨y1,y2,rfl,h1,⟨z1,z2,rfl,h2,⟨f1,f2,rfl,⟨_,h3⟩,⟨g1,g2,rfl,_,⟨_,h4⟩⟩⟩⟩⟩⟩:=h
 exact⟨(ini_u16.1 h3).1,(ini_u8.1 h4).1⟩
set_option maxHeartbeats 4000000 in
theorem gCrashes_ok{w:World}{db:List Nm}{l:List Stp}{dba:Option Addr}{dbn dbc:Nat}{la:Option Addr}{ln lc:Nat}(hdb:R (tSl tNm) [] w db [.slice dba dbn dbc])(hl:R (tSl tStp) [] w l [.slice la ln lc]):
 Calls Tryz.prog 7 #[.slice dba dbn dbc,.slice la ln lc] w (PureR (.bool true) w):=by
 obtain⟨rfl,_,_⟩:=hdb.sl_len
 obtain⟨rfl,_,_⟩:=hl.sl_len
 have hmx:maxSl=140737488355328:=rfl
 have works:∀{wa wb:World},KpL [] w wa→KpL [] wa wb→PureR (.bool true) w (.returned (.bool true)) wb:=fun h1 h2=>⟨rfl,h1.trans h2⟩
 refine gCrashes_vc ⟨(lfew_ok hdb).mono ?_⟩
 rintro e w1 ⟨b1,rfl,hw1,hfew⟩
 refine⟨_,rfl,hw1,fun hb=>⟨(lfits_ok (hl.kp0 hw1)).mono ?_⟩,fun _=>⟨(lworks_ok w1).mono ?_⟩⟩
 rotate_left
 ·rintro e w3 ⟨rfl,hw3⟩
  exact⟨_,rfl,hw3,works hw1 hw3⟩
 obtain⟨hf1,hf2⟩:=hfew (nb_f hb)
 rintro e w2 ⟨b2,rfl,hw2,hfit⟩
 have hk02:=hw1.trans hw2
 refine⟨_,rfl,hw2,fun _=>⟨(lworks_ok w2).mono ?_⟩,fun hb2=>?_⟩
 ·rintro e w3 ⟨rfl,hw3⟩
  exact⟨_,rfl,hw3,works hk02 hw3⟩
 obtain⟨hl12,hall⟩:=hfit (nb_f hb2)
 have hpl:(fmtPl 0 db).length≤32:=by have:=fmtPl_len (m:=8) (l:=db) (i:=0) hf2;omega
 have huse:(fmtSto db).use≤129:=by
  show 1+8*((db.map fmtArr).length:Int)+3*((fmtPl 0 db).length:Int)+(([]:List Seen).length:Int)≤129
  simp only[List.length_map,List.length_nil]
  omega
 have hhalf:((halfN (fxOf 1024 db).n:Nat):Int)=511:=by show((halfN 1024:Nat):Int)=511;decide
 refine⟨(lformattedQ (M:=[]) (by simp) (n:=1024) (by omega) (by omega) (hdb.kp0 hk02) (by omega)).mono ?_⟩
 rintro e w4 ⟨hw4,hh⟩
 by_cases hok:okDb 1024 db
 rotate_left
 ·rw[if_neg hok]at hh
  obtain⟨a1,a2,rfl⟩:=hh
  refine⟨_,_,_,rfl,[],hw4,⟨(lformattedQ (M:=[]) (by simp) (n:=1024) (by omega) (by omega) (hdb.kp0 (hk02.trans hw4)) (by omega)).mono ?_⟩⟩
  rintro e w5 ⟨hw5,hh2⟩
  rw[if_neg hok]at hh2
  obtain⟨a3,a4,rfl⟩:=hh2
  have hk05:=(hk02.trans hw4).trans hw5
  refine⟨_,_,_,rfl,[],hw5,fun hc=>(by cases hc),fun _=>⟨fun _=>⟨(database_ok (hdb.kp0 hk05)).mono ?_⟩,fun hc=>(by cases hc)⟩⟩
  rintro e w13 ⟨rfl,hw13⟩
  refine⟨_,rfl,hw13,fun hz=>⟨fun _=>⟨(lworks_ok w13).mono ?_⟩,fun hne=>?_⟩,fun _=>⟨(lworks_ok w13).mono ?_⟩⟩
  ·rintro e w14 ⟨rfl,hw14⟩
   exact⟨_,rfl,hw14,works (hk05.trans hw13) hw14⟩
  ·exact absurd ⟨by omega,by omega,by show(fmtSto db).use≤511;omega⟩ hok
  ·rintro e w14 ⟨rfl,hw14⟩
   exact⟨_,rfl,hw14,works (hk05.trans hw13) hw14⟩
 rw[if_pos hok]at hh
 obtain⟨d,s,G1,rfl,hS,hG1⟩:=hh
 refine⟨_,_,_,rfl,[],hw4,⟨(lformattedQ (M:=G1) (fun b hb=>(hS.own_lt b hb).1) (n:=1024) (by omega) (by omega) (hdb.kp0 (hk02.trans hw4)) (by omega)).mono ?_⟩⟩
 rintro e w5 ⟨hw5,hh2⟩
 rw[if_pos hok]at hh2
 obtain⟨dt,t,G2,rfl,hT,hG2⟩:=hh2
 have hk05:=(hk02.trans hw4).trans hw5
 have s24:=hw4.size
 refine⟨_,_,_,rfl,[],hw5,fun _=>⟨fun hc=>(by cases hc),fun _=>?_⟩,fun hc=>(by cases hc)⟩
 have hfresh:∀b∈G1++G2,w2.heap.size≤b:=fun b hb=>by
  rcases List.mem_append.1 hb with hb|hb
  ·exact hG1 b hb
  ·have:=hG2 b hb;omega
 have hP0:Pair (fxOf 1024 db) w5 s d true t 1 (fmtSto db).use [] [] (G1++G2):=⟨dt,G1,G2,hS.step hw5 (by simp) fun b hb=>⟨.inr (hG2 b hb),(hT.own_lt b hb).1⟩,hT,rfl⟩
 have hl5:R (tSl tStp) ((G1++G2)++[]) w5 l [.slice la l.length lc]:=by
  have:=((hl.kp0 hk02).fresh (N:=G1++G2) (hw4.trans hw5) hfresh)
  exact this
 refine⟨fun vs w'=>∃(i s':Nat) (B:List Bt) (G:List Nat),vs=[.pointer (some ⟨s',0,none⟩),.int .i64 (i:Int)]∧i≤l.length∧Pair (fxOf 1024 db) w' s' d true t (1+2*i) ((fmtSto db).use+28*i) B B G∧Own (G1++G2) w5 G w'∧R (tSl tStp) (G++[]) w' l [.slice la l.length lc],
  fun vs _=>match vs with|[_,.int _ i]=>l.length - i.toNat|_=>0,⟨0,s,[],G1++G2,rfl,by omega,hP0,Own.refl _ _,hl5⟩,?_⟩
 rintro a5 n2 w9 ⟨i,s',B,G,hv,hi,hP,hO,hR⟩
 simp only[List.cons.injEq,Value.int.injEq,Value.pointer.injEq,true_and,and_true]at hv
 obtain⟨rfl,rfl⟩:=hv
 have hk9:KpL [] w w9:=hk02.trans ((hw4.trans hw5).more hO.kp fun b hb=>.inr (hfresh b hb))
 constructor
 ·intro hlt
  have gi:i<l.length:=by omega
  obtain⟨ad,cs,rfl,hv1,hld,_,_⟩:=hR.sl_get gi
  have hI:=hv1.stpI
  obtain⟨ca,cn,cc,pa,pn,pc,rfl,hb,hp⟩:=hv1.stp
  obtain⟨xa,xn,xc,hx,_,_,_,hch⟩:=hb.bt
  simp only[List.cons.injEq,Value.slice.injEq,true_and,and_true]at hx
  obtain⟨rfl,rfl,rfl⟩:=hx
  obtain⟨h4,h200⟩:=hall l[i] (List.getElem_mem gi)
  refine⟨ad,rfl,by omega,hlt,_,_,_,_,_,_,_,_,_,_,_,_,_,hld,⟨(lstep_ok hP (by omega) hch hp h4 h200 hI.1 hI.2 (by rw[hhalf];omega)).mono ?_⟩⟩
  rintro e w10 ⟨s2,G',B',hO10,rfl,hP10⟩
  refine⟨_,rfl,G,hO10.kp,fun _=>⟨hP10.equal.mono ?_⟩,fun hc=>(by cases hc)⟩
  rintro e w11 ⟨b,rfl,hw11,he,_⟩
  refine⟨_,rfl,hw11,fun hc=>(by rw[he rfl]at hc;cases hc),fun _=>⟨ini_i64.2 (by omega),⟨i+1,s2,B',G',rfl,by omega,?_,(hO.trans hO10).kp0 hw11,(hO10.data hR).kp0 hw11⟩,by dsimp only;omega⟩⟩
  exact(hP10.kp0 hw11).up (by omega) (by omega) (by rw[hhalf];omega)
 ·intro _
  refine⟨(lworks_ok w9).mono ?_⟩
  rintro e w12 ⟨rfl,hw12⟩
  exact⟨_,rfl,hw12,works hk9 hw12⟩
end Go.Vc
namespace Go.Vc
open Go Go.Proofs
def Opn{α:Type}(t:TypeId)(e:Ty α):Prop:=Tryz.prog.cellsOf t=e.sz∧∀{H:Type} {enc:TypeId×Value→H} {w:World} {n:Nat} {cs:List Value} {x:DataW H×List MemPlace},
 DataW.trod enc Tryz.prog w 0 (fun _=>true) true n t cs=some x→(∀m∈x.1.weights Tryz.prog t,m≤reachBytes)→∃a:α,e.rel (fun b=>b<w.heap.size) w a cs
theorem Opn.R{α:Type}{t:TypeId}{e:Ty α}(h:Opn t e){H:Type}{enc:TypeId×Value→H}{w:World}{v:Value}{d:DataW H}{ps:List MemPlace}(hx:DataW.Trod enc Tryz.prog w 0 (fun _=>true) true t v d ps)(hw:∀m∈d.weights Tryz.prog t,m≤reachBytes):∃a:α,R e [] w a v.cells.toList:=by
 obtain⟨n,hn⟩:=hx
 obtain⟨a,ha⟩:=h.2 hn hw
 exact⟨a,e.mono ha fun b hb=>⟨⟨hb,by simp⟩,rfl⟩⟩
theorem opn_int{t:TypeId}{k:IntKind}(ht:Tryz.prog.underlying t=some (.int k))(hc:Tryz.prog.cellsOf t=1):Opn t (tI k):=by
 refine⟨hc,fun hx _=>?_⟩
 obtain⟨n,rfl,_,hw⟩:=DataW.trod_int ht hx
 simp only[Lit.wf,Bool.and_eq_true,decide_eq_true_eq]at hw
 exact⟨n,rfl,⟨hw.1,hw.2⟩⟩
theorem opn_bool{t:TypeId}(ht:Tryz.prog.underlying t=some .bool)(hc:Tryz.prog.cellsOf t=1):Opn t tB:=by
 refine⟨hc,fun hx _=>?_⟩
 obtain⟨n,rfl,_⟩:=DataW.trod_bool ht hx
 exact⟨n,rfl⟩
def tS':Ty ByteArray where
 sz:=1
 rel:=fun _ _ x cs=>cs=[.string x]∧x.size≤maxSl
 len:=by rintro _ _ _ _ ⟨rfl,_⟩;rfl
 one:=by rintro _ _ _ _ ⟨rfl,_⟩ v hv;simp at hv;subst hv;rfl
 mono:=fun h _=>h
theorem opn_string{t:TypeId}(ht:Tryz.prog.underlying t=some .string)(hc:Tryz.prog.cellsOf t=1):Opn t tS':=by
 refine⟨hc,fun hx hw=>?_⟩
 obtain⟨s,rfl,rfl,hs⟩:=DataW.trod_string ht hx
 refine⟨s,rfl,?_⟩
 have:=hw s.data.toList.length (by simp[DataW.weights])
 have e:s.data.toList.length=s.size:=rfl
 unfold reachBytes at this
 have:maxSl=140737488355328:=rfl
 omega
theorem list_choose{α:Type}{p:Nat→α→Prop}:∀{n:Nat},(∀i,i<n→∃y,p i y)→∃xs:List α,xs.length=n∧∀i y,xs[i]?=some y→p i y
 |0,_=>⟨[],rfl,by simp⟩
 |n+1,h=>by
  obtain⟨xs,h1,h2⟩:=list_choose (n:=n) fun i hi=>h i (by omega)
  obtain⟨y,hy⟩:=h n (by omega)
  refine⟨xs++[y],by simp[h1],fun i z hz=>?_⟩
  by_cases hi:i<n
  ·rw[List.getElem?_append_left (by omega)]at hz
   exact h2 i z hz
  ·rw[List.getElem?_append_right (by omega)]at hz
   have hi':i=n:=by
    have:=(List.getElem?_eq_some_iff.1 hz).1
    simp at this
    omega
   subst hi'
   rw[h1,Nat.sub_self]at hz
   simp at hz
   subst hz
   exact hy
theorem cell_blk{w:World}{a:Addr}{v:Value}(h:w.cell? a=some v):∃c T fz,a.spot=none∧w.heap[a.block]?=some (.cells c T fz)∧c[a.off]?=some v:=by
 unfold World.cell? at h
 split at h
 ·rename_i c T fz hc
  split at h
  ·cases h
  ·rename_i hs
   exact⟨c,T,fz,by simpa using hs,hc,h⟩
 ·cases h
theorem weightsAll_mem{H:Type}{e:TypeId}:∀{l:List (DataW H)} {d:DataW H},d∈l→∀m∈d.weights Tryz.prog e,m∈DataW.weightsAll Tryz.prog e l
 |a::r,d,hd,m,hm=>by
  rw[DataW.weightsAll,List.mem_append]
  rcases List.mem_cons.1 hd with rfl|hd
  ·exact .inl hm
  ·exact .inr (weightsAll_mem hd m hm)
theorem opn_slice{α:Type}{t e:TypeId}{te:Ty α}(ht:Tryz.prog.underlying t=some (.slice e))(hc:Tryz.prog.cellsOf t=1)(h:Opn e te)(h1:1≤te.sz)(hby:1≤Tryz.prog.bytesOf e):Opn t (tSl te):=by
 refine⟨hc,fun {H enc w n cs x} hx hw=>?_⟩
 rcases Deep.open_slice ht hx with ⟨rfl,_⟩|⟨a,len,cap,m,n',D,Pl,rfl,hb,hl,hm,hmm,rfl,hall⟩
 ·exact⟨[],none,0,rfl,Nat.le_refl _,by simp,fun hc=>absurd rfl hc⟩
 ·have hmc:m=cap:=by simpa using hmm
  obtain⟨xs,hlen,hxs⟩:=list_choose (n:=len) (p:=fun i (y:α)=>∃cs',w.cells? 0 (a.add (i*Tryz.prog.cellsOf e)) (Tryz.prog.cellsOf e)=some cs'∧te.rel (fun b=>b<w.heap.size) w y cs') fun i hi=>by
   obtain⟨cs',g1,g2⟩:=hall i (by omega)
   obtain⟨y,hy⟩:=h.2 g2 fun m' hm'=>hw m' (by
    simp only[DataW.weights,ht,List.mem_cons,List.mem_append]
    exact .inr (.inl (weightsAll_mem (List.mem_map.2 ⟨i,by simpa using hi,rfl⟩) m' hm')))
   exact⟨y,cs',g1,hy⟩
  subst hlen
  refine⟨xs,some a,cap,rfl,hl,?_,fun hne=>?_⟩
  ·have:=hw _ (by simp only[DataW.weights,ht];exact List.mem_cons_self ..)
   simp only[List.length_map,List.length_range]at this
   have h3:xs.length*1≤(xs.length+(m - xs.length))*Tryz.prog.bytesOf e:=Nat.mul_le_mul (by omega) hby
   unfold reachBytes at this
   have:maxSl=140737488355328:=rfl
   omega
  ·have h0:0<xs.length:=by
    cases xs with
    |nil=>exact absurd rfl hne
    |cons _ _=>simp
   obtain⟨cs0,g1,g2⟩:=hxs 0 xs[0] (List.getElem?_eq_getElem h0)
   rw[h.1]at g1
   obtain⟨_,hl0,hc0⟩:=World.cells?_some g1
   have g3:=hc0 0 (by omega)
   rw[List.getElem?_eq_getElem (by omega),Nat.zero_mul]at g3
   obtain⟨arr,T,fz,e1,e2,e3⟩:=cell_blk g3
   obtain⟨b,off,sp⟩:=a
   have esp:sp=none:=by
    cases sp with
    |none=>rfl
    |some s=>simp[Addr.add]at e1
   subst esp
   rw[add_lit,add_lit]at e2
   dsimp only at e2
   refine⟨b,off,arr,T,fz,rfl,block_lt e2,e2,fun i y hy=>?_⟩
   obtain⟨cs',q1,q2⟩:=hxs i y hy
   rw[h.1]at q1
   obtain⟨_,hl',hc'⟩:=World.cells?_some q1
   refine⟨cs',q2,fun j v hv=>?_⟩
   have hj:=(List.getElem?_eq_some_iff.1 hv).1
   have q3:=hc' j (by omega)
   rw[hv,add_lit,add_lit]at q3
   obtain⟨arr',T',fz',_,e5,e6⟩:=cell_blk q3
   dsimp only at e5 e6
   rw[e2]at e5
   simp only[Option.some.injEq,Obj.cells.injEq]at e5
   obtain⟨rfl,_,_⟩:=e5
   rw[Array.getElem?_toList]
   exact e6
theorem trod_field{H:Type}{enc:TypeId×Value→H}{w:World}{n:Nat}{t:TypeId}{fs:Array Field}{cs:List Value}{x:DataW H×List MemPlace}(ht:Tryz.prog.underlying t=some (.struct fs))(hx:DataW.trod enc Tryz.prog w 0 (fun _=>true) true n t cs=some x){α:Type}{e:Ty α}{f:Field}(i:Nat)(hf:fs[i]?=some f)(h:Opn f.type e)(hw:∀m∈x.1.weights Tryz.prog t,m≤reachBytes):
 ∃a:α,e.rel (fun b=>b<w.heap.size) w a ((cs.drop f.offset).take e.sz):=by
 obtain⟨xs,m,_,rfl,_,hlen,hall⟩:=DataW.trod_struct ht hx
 have g:=hall i f hf
 have hi:i<fs.size:=(Array.getElem?_eq_some_iff.1 hf).1
 have hi':i<xs.length:=by omega
 rw[List.getElem?_eq_getElem hi',h.1]at g
 refine h.2 g fun m' hm'=>hw m' ?_
 simp only[DataW.weights,ht]
 exact DataW.weights_mem_each (j:=i) (by rw[List.getElem?_map,Array.getElem?_toList,hf];rfl) (by rw[List.getElem?_map,List.getElem?_eq_getElem hi'];rfl) m' hm'
theorem trod_structLen{H:Type}{enc:TypeId×Value→H}{w:World}{n:Nat}{t:TypeId}{fs:Array Field}{cs:List Value}{x:DataW H×List MemPlace}(ht:Tryz.prog.underlying t=some (.struct fs))(hx:DataW.trod enc Tryz.prog w 0 (fun _=>true) true n t cs=some x):cs.length=Tryz.prog.cellsOf t:=by
 obtain⟨xs,m,_,_,h,_⟩:=DataW.trod_struct ht hx
 exact h
theorem opn3:Opn 3 (tI .i64):=opn_int Tryz.underlying3 (by kernel_rfl)
theorem opn2:Opn 2 (tI .i64):=opn_int Tryz.underlying2 (by kernel_rfl)
theorem opn9:Opn 9 tS':=opn_string Tryz.underlying9 (by kernel_rfl)
theorem opn78:Opn 78 (tSl (tI .i64)):=opn_slice Tryz.underlying78 (by kernel_rfl) opn3 (by decide) (by decide +kernel)
theorem opn153:Opn 153 tDim:=by
 refine⟨by kernel_rfl,fun {H enc w n cs x} hx hw=>?_⟩
 have hl:=trod_structLen Tryz.underlying153 hx
 have hc:Tryz.prog.cellsOf 153=3:=by kernel_rfl
 rw[hc]at hl
 obtain⟨a,ha⟩:=trod_field Tryz.underlying153 hx 0 rfl opn9 hw
 obtain⟨b,hb⟩:=trod_field Tryz.underlying153 hx 1 rfl opn3 hw
 obtain⟨c,hc⟩:=trod_field Tryz.underlying153 hx 2 rfl opn3 hw
 match cs,hl,ha,hb,hc with
 |[c0,c1,c2],_,⟨h1,h2⟩,⟨h3,h4⟩,⟨h5,h6⟩ =>
  simp[tS',tI]at h1 h3 h5
  subst h1 h3 h5
  exact⟨⟨a,b,c⟩,rfl,h2,h4,h6⟩
theorem opn156:Opn 156 tAttr:=by
 refine⟨by kernel_rfl,fun {H enc w n cs x} hx hw=>?_⟩
 have hl:=trod_structLen Tryz.underlying156 hx
 have hc:Tryz.prog.cellsOf 156=2:=by kernel_rfl
 rw[hc]at hl
 obtain⟨a,ha⟩:=trod_field Tryz.underlying156 hx 0 rfl opn9 hw
 obtain⟨b,hb⟩:=trod_field Tryz.underlying156 hx 1 rfl opn3 hw
 match cs,hl,ha,hb with
 |[c0,c1],_,⟨h1,h2⟩,⟨h3,h4⟩ =>
  simp[tS',tI]at h1 h3
  subst h1 h3
  exact⟨⟨a,b⟩,rfl,h2,h4⟩
theorem opn161:Opn 161 tVal:=by
 refine⟨by kernel_rfl,fun {H enc w n cs x} hx hw=>?_⟩
 have hl:=trod_structLen Tryz.underlying161 hx
 have hc:Tryz.prog.cellsOf 161=4:=by kernel_rfl
 rw[hc]at hl
 obtain⟨a,ha⟩:=trod_field Tryz.underlying161 hx 0 rfl opn3 hw
 obtain⟨b,hb⟩:=trod_field Tryz.underlying161 hx 1 rfl opn2 hw
 obtain⟨c,hc⟩:=trod_field Tryz.underlying161 hx 2 rfl opn2 hw
 obtain⟨d,hd⟩:=trod_field Tryz.underlying161 hx 3 rfl opn9 hw
 match cs,hl,ha,hb,hc,hd with
 |[c0,c1,c2,c3],_,⟨h1,h2⟩,⟨h3,h4⟩,⟨h5,h6⟩,⟨h7,h8⟩ =>
  simp[tS',tI]at h1 h3 h5 h7
  subst h1 h3 h5 h7
  exact⟨⟨a,b,c,d⟩,rfl,h2,h4,h6,h8⟩
theorem opn79:Opn 79 (tSl tVal):=opn_slice Tryz.underlying79 (by kernel_rfl) opn161 (by decide) (by decide +kernel)
theorem opn_cell{t:TypeId}(ht:Tryz.prog.underlying t=some (.struct #[⟨"At",78,0,false, "", "",0⟩,⟨"Vals",79,1,false, "", "",24⟩]))(hc:Tryz.prog.cellsOf t=2):Opn t tCell:=by
 refine⟨hc,fun {H enc w n cs x} hx hw=>?_⟩
 have hl:=trod_structLen ht hx
 rw[hc]at hl
 obtain⟨a,ha⟩:=trod_field ht hx 0 rfl opn78 hw
 obtain⟨b,hb⟩:=trod_field ht hx 1 rfl opn79 hw
 match cs,hl,ha,hb with
 |[c0,c1],_,h1,h2=>exact⟨⟨a,b⟩,[c0],[c1],rfl,h1,h2⟩
theorem opn147:Opn 147 tCell:=opn_cell Tryz.underlying147 (by kernel_rfl)
theorem opn81:Opn 81 tCell:=opn_cell Tryz.underlying81 (by kernel_rfl)
theorem opn54:Opn 54 (tSl tDim):=opn_slice Tryz.underlying54 (by kernel_rfl) opn153 (by decide) (by decide +kernel)
theorem opn55:Opn 55 (tSl tAttr):=opn_slice Tryz.underlying55 (by kernel_rfl) opn156 (by decide) (by decide +kernel)
theorem opn56:Opn 56 (tSl tCell):=opn_slice Tryz.underlying56 (by kernel_rfl) opn147 (by decide) (by decide +kernel)
theorem opn30:Opn 30 (tSl tCell):=opn_slice Tryz.underlying30 (by kernel_rfl) opn81 (by decide) (by decide +kernel)
theorem opn58:Opn 58 tArr:=by
 refine⟨by kernel_rfl,fun {H enc w n cs x} hx hw=>?_⟩
 have hl:=trod_structLen Tryz.underlying58 hx
 have hc:Tryz.prog.cellsOf 58=3:=by kernel_rfl
 rw[hc]at hl
 obtain⟨a,ha⟩:=trod_field Tryz.underlying58 hx 0 rfl opn54 hw
 obtain⟨b,hb⟩:=trod_field Tryz.underlying58 hx 1 rfl opn55 hw
 obtain⟨c,hc⟩:=trod_field Tryz.underlying58 hx 2 rfl opn56 hw
 match cs,hl,ha,hb,hc with
 |[c0,c1,c2],_,h1,h2,h3=>exact⟨⟨a,b,c⟩,[c0],[c1,c2],rfl,h1,[c1],[c2],rfl,h2,h3⟩
theorem opn60:Opn 60 tNm:=by
 refine⟨by kernel_rfl,fun {H enc w n cs x} hx hw=>?_⟩
 have hl:=trod_structLen Tryz.underlying60 hx
 have hc:Tryz.prog.cellsOf 60=4:=by kernel_rfl
 rw[hc]at hl
 obtain⟨a,ha⟩:=trod_field Tryz.underlying60 hx 0 rfl opn9 hw
 obtain⟨b,hb⟩:=trod_field Tryz.underlying60 hx 1 rfl opn58 hw
 match cs,hl,ha,hb with
 |[c0,c1,c2,c3],_,h1,h2=>exact⟨⟨a,b⟩,[c0],[c1,c2,c3],rfl,⟨h1.1,by have:=h1.2;have:maxSl=140737488355328:=rfl;dsimp only;omega⟩,h2⟩
theorem opn23:Opn 23 (tSl tNm):=opn_slice Tryz.underlying23 (by kernel_rfl) opn60 (by decide) (by decide +kernel)
end Go.Vc
namespace Go.Vc
open Go Go.Proofs
theorem opn32:Opn 32 tBt:=by
 refine⟨by kernel_rfl,fun {H enc w n cs x} hx hw=>?_⟩
 have hl:=trod_structLen Tryz.underlying32 hx
 have hc:Tryz.prog.cellsOf 32=4:=by kernel_rfl
 rw[hc]at hl
 obtain⟨a,ha⟩:=trod_field Tryz.underlying32 hx 0 rfl opn9 hw
 obtain⟨b,hb⟩:=trod_field Tryz.underlying32 hx 1 rfl opn2 hw
 obtain⟨c,hc⟩:=trod_field Tryz.underlying32 hx 2 rfl opn9 hw
 obtain⟨d,hd⟩:=trod_field Tryz.underlying32 hx 3 rfl opn30 hw
 have hmx:maxSl=140737488355328:=rfl
 match cs,hl,ha,hb,hc,hd with
 |[c0,c1,c2,c3],_,⟨h1,h2⟩,⟨h3,h4⟩,⟨h5,h6⟩,h7 =>
  simp[tS',tI]at h1 h3 h5
  subst h1 h3 h5
  exact⟨⟨a,b,c,d⟩,[_,_],[_,_],rfl,⟨[_],[_],rfl,⟨rfl,by dsimp only;omega⟩,⟨rfl,h4⟩⟩,⟨[_],[_],rfl,⟨rfl,by dsimp only;omega⟩,h7⟩⟩
end Go.Vc
namespace Go.Vc
open Go Go.Proofs
theorem opn4:Opn 4 tB:=opn_bool Tryz.underlying4 (by kernel_rfl)
theorem opn25:Opn 25 (tI .u16):=opn_int Tryz.underlying25 (by kernel_rfl)
theorem opn5:Opn 5 (tI .u8):=opn_int Tryz.underlying5 (by kernel_rfl)
theorem opn33:Opn 33 (tSl (tI .u8)):=opn_slice Tryz.underlying33 (by kernel_rfl) opn5 (by decide) (by decide +kernel)
theorem opn35:Opn 35 tFl:=by
 refine⟨by kernel_rfl,fun {H enc w n cs x} hx hw=>?_⟩
 have hl:=trod_structLen Tryz.underlying35 hx
 have hc:Tryz.prog.cellsOf 35=3:=by kernel_rfl
 rw[hc]at hl
 obtain⟨a,ha⟩:=trod_field Tryz.underlying35 hx 0 rfl opn25 hw
 obtain⟨b,hb⟩:=trod_field Tryz.underlying35 hx 1 rfl opn33 hw
 obtain⟨c,hc⟩:=trod_field Tryz.underlying35 hx 2 rfl opn5 hw
 match cs,hl,ha,hb,hc with
 |[c0,c1,c2],_,h1,h2,h3=>exact⟨⟨a,b,c⟩,[c0],[c1,c2],rfl,h1,[c1],[c2],rfl,h2,h3⟩
theorem opn37:Opn 37 tStp:=by
 refine⟨by kernel_rfl,fun {H enc w n cs x} hx hw=>?_⟩
 have hl:=trod_structLen Tryz.underlying37 hx
 have hc:Tryz.prog.cellsOf 37=9:=by kernel_rfl
 rw[hc]at hl
 obtain⟨a,ha⟩:=trod_field Tryz.underlying37 hx 0 rfl opn32 hw
 obtain⟨b,hb⟩:=trod_field Tryz.underlying37 hx 1 rfl opn4 hw
 obtain⟨c,hc⟩:=trod_field Tryz.underlying37 hx 2 rfl opn4 hw
 obtain⟨d,hd⟩:=trod_field Tryz.underlying37 hx 3 rfl opn35 hw
 match cs,hl,ha,hb,hc,hd with
 |[c0,c1,c2,c3,c4,c5,c6,c7,c8],_,h1,h2,h3,h4=>exact⟨⟨a,b,c,d⟩,[c0,c1,c2,c3],[c4,c5,c6,c7,c8],rfl,h1,[c4],[c5,c6,c7,c8],rfl,h2,[c5],[c6,c7,c8],rfl,h3,h4⟩
theorem opn38:Opn 38 (tSl tStp):=opn_slice Tryz.underlying38 (by kernel_rfl) opn37 (by decide) (by decide +kernel)
end Go.Vc
namespace Go.Proofs.YtlmpniofhabmiaaGreat.ingestCrashes
open Go.ChangeShapes Go.WideShapes Go.ChangeAt Go.RowKit
theorem own:ownKnob Tryz.prog.godebug=none:=by kernel_rfl
theorem laidOut:laidOutB Tryz.prog=true:=by kernel_rfl
theorem below{w w':World}(h:Go.Vc.KpL [] w w'):Below w.heap.size w w':=⟨h.os,h.tape,h.output,h.size,fun k hk=>h.blk k hk (by simp)⟩
set_option maxRecDepth 100000 in
theorem lifted(os:Os)(started:os.Started)(H:Type)(enc:TypeId×Value→H):
 ReturnsInHanded {} Tryz.checked os 7 .any (Rows.ingestCrashesSpec.pre6 enc Tryz.prog Tryz.f7 Rows.ingestCrashesRow.domain false) (Rows.ingestCrashesSpec.post enc Tryz.prog Tryz.f7 false true false false):=by
 refine returnsInHanded_of_change_sized (C:=Tryz.checked) own started (by kernel_rfl) Tryz.func7
  (ChangeSpec.witness6 (enc:=enc) (C:=Tryz.checked) false ⟨#[],#[.slice none 0 0,.slice none 0 0],[]⟩ 8 (by kernel_rfl) (by kernel_rfl) (by kernel_rfl) (by kernel_rfl)) ?_
 intro W base args ds gs before hval0 hW hcnd hsz _
 have hval:∀(j:Nat) t v,Tryz.f7.params[j]?=some t→args[j]?=some v→Value.okWide Tryz.prog W .any base t v:=hval0
 have hW':=hW
 obtain⟨p,q,hA0,hV,rfl,hfz,hnd⟩:=hW
 have hA:DataW.TrodAll enc Tryz.prog W 0 (fun _=>true) true Tryz.f7.params.toList args.toList ds p:=hA0
 rw[Tryz.params7]at hA hval hsz
 obtain⟨v0,vs0,d0,ds0,p0,q0,hargs,rfl,rfl,h0,r0⟩:=trodAll_cons hA
 obtain⟨v1,vs1,d1,ds1,p1,q1,rfl,rfl,rfl,h1,r1⟩:=trodAll_cons r0
 obtain⟨rfl,rfl,rfl⟩:=trodAll_nil r1
 obtain rfl:args=#[v0,v1]:=by cases args;simp_all
 obtain⟨rfl,rfl⟩:=trodVars_none hV
 have wt:∀(j:Nat) (t:TypeId) (d:DataW H),([23,38]:List TypeId)[j]?=some t→[d0,d1][j]?=some d→∀m∈d.weights Tryz.prog t,m≤reachBytes:=fun j t d ht hd m hm=>by
  have:=List.all_eq_true.1 hsz m (DataW.weights_mem_each (j:=j) (by rw[List.getElem?_append_left (by have:=(List.getElem?_eq_some_iff.1 ht).1;simpa using this)];exact ht) (by rw[List.getElem?_append_left (by have:=(List.getElem?_eq_some_iff.1 hd).1;simpa using this)];exact hd) m hm)
  simpa using this
 obtain⟨a0,n0,c0,rfl⟩:=okWide_slice Tryz.underlying23 (hval 0 23 v0 rfl rfl)
 obtain⟨a1,n1,c1,rfl⟩:=okWide_slice Tryz.underlying38 (hval 1 38 v1 rfl rfl)
 have lt:∀{t:TypeId} {v:Value} {d:DataW H} {ps:List MemPlace},DataW.Trod enc Tryz.prog W 0 (fun _=>true) true t v d ps→∀x∈ps,x.block<W.heap.size:=fun⟨m,hm⟩=>DataW.trod_lt m _ _ _ hm
 obtain⟨db,hdb⟩:=Go.Vc.opn23.R h0 (wt 0 23 d0 rfl rfl)
 obtain⟨l,hl⟩:=Go.Vc.opn38.R h1 (wt 1 38 d1 rfl rfl)
 clear hA0 hval0
 refine(Go.Vc.gCrashes_ok hdb hl).mono fun e W' ⟨he,hk⟩=>?_
 subst he
 have bel:=below hk
 exact⟨_,rfl,_,_,_,[],_,[],hW',trodAll_mk1 (shut_bool Tryz.underlying4 _),(trodAll_cons_mk (Below.trod laidOut (by kernel_rfl) (of_decide_eq_true (by kernel_rfl)) h0 bel (lt h0)) (trodAll_cons_mk (Below.trod laidOut (by kernel_rfl) (of_decide_eq_true (by kernel_rfl)) h1 bel (lt h1)) trodAll_mk0)),rfl,bel.frame _,fun h=>by cases h⟩
theorem over:Rows.ingestCrashesRow.holds Tryz.pinned (OpenSpec.ofChange Rows.ingestCrashesSpec) :=
 OpenClaim.holds_of_wide 7 Tryz.f7 rfl rfl rfl rfl rfl rfl rfl ⟨rfl,rfl,rfl,rfl,rfl⟩ rfl rfl rfl rfl rfl (by kernel_rfl) Tryz.func7 (by kernel_rfl)
  (of_decide_eq_true (by kernel_rfl)) (by unfold Func.isWrapper;rw[if_neg (of_decide_eq_false (by kernel_rfl))];exact⟨rfl,rfl⟩)
  (fun os started H enc _=>lifted os started H enc)
theorem proved:Rows.IngestCrashesSaid:=over
#print axioms proved
end Go.Proofs.YtlmpniofhabmiaaGreat.ingestCrashes
