/- 'tesseractlaw10.IngestEvery' returns true whatever its input is, and each of its arguments reads afterwards as it read before. Conditions: none. -/
import Derived.Test.YtlmpniofhabmiaaGreatEveE
import Derived.Below
import Derived.Deep.Slices
import Derived.OpenShut
import Derived.SizedLaws
import Derived.ChangeOld
import Derived.ProofKit
import Derived.ShutString
import Derived.Test.YtlmpniofhabmiaaGreatRows
import Derived.WalkKit
set_option linter.unusedVariables false
set_option linter.unusedSimpArgs false
set_option linter.unusedSectionVars false
namespace Go.Vc
open Go Go.Proofs
def chk(db:List Nm)(b:Bt):Bool:=decide ((fmtSto db).checkE b=0)
structure Run (db:List Nm) (L:List Bt) (i:Nat) (st:Sto):Prop where
 aft:Aft (db.map fmtArr) (fmtPl 0 db) ((L.take i).filter (chk db)) st
 use:st.use≤(fmtSto db).use+14*i
theorem Run.start{db:List Nm}{L:List Bt}(i:Int):Run db L 0 { fmtSto db with id:=i }:=by
 refine⟨⟨rfl,rfl,fun p=>?_,by simp,by simp⟩,by show(fmtSto db).use≤_;omega⟩
 show At _ (fmtPl 0 db) _ p (getM (fmtPl 0 db) p)
 cases hx:getM (fmtPl 0 db) p with
 |none=>exact .none hx (by simp)
 |some x =>
  refine .old x x ?_ hx rfl (by simp)
  unfold getM at hx
  obtain⟨q,hq,rfl⟩:=Option.map_eq_some_iff.1 hx
  obtain⟨j,y,c,_,_,hp⟩:=fmtPl_a (List.mem_of_find?_eq_some hq)
  rw[hp]
theorem getM_some_mem{κ β:Type}[DecidableEq κ]{l:List (κ×β)}{k:κ}{v:β}(h:getM l k=some v):(k,v)∈l:=by
 unfold getM at h
 obtain⟨q,hq,rfl⟩:=Option.map_eq_some_iff.1 h
 have h1:=List.find?_some hq
 have h2:=List.mem_of_find?_eq_some hq
 simp only[decide_eq_true_eq]at h1
 rw[←h1]
 exact h2
theorem cellsI_sub{ars:List Nm}{ps qs:List (Pl×Sta)}(nd:(ps.map (·.1)).Nodup)(h:∀p,(getM ps p).map (·.vals)=(getM qs p).map (·.vals)){i:Nat}{c:Cell}(hc:c∈cellsI ars ps i):c∈cellsI ars qs i:=by
 unfold cellsI at hc ⊢
 obtain⟨q,hq,he⟩:=List.mem_filterMap.1 hc
 have hg:=getM_mem nd (k:=q.1) (v:=q.2) hq
 have h1:=h q.1
 rw[hg]at h1
 cases hx:getM qs q.1 with
 |none=>rw[hx]at h1;cases h1
 |some y =>
  rw[hx]at h1
  have hv:q.2.vals=y.vals:=by simpa using h1
  refine List.mem_filterMap.2 ⟨(q.1,y),getM_some_mem hx,?_⟩
  unfold cellP at he ⊢
  dsimp only
  rw[←hv]
  exact he
theorem csorted_nd{l:List Cell}(h:CSorted l):l.Nodup:=by
 unfold CSorted at h
 refine h.imp fun {a b} hab he=>?_
 subst he
 have:cmpL a.at_ a.at_=0:=cmpL_zero.2 rfl
 omega
theorem cellsE_of{ds:List Dim}{ats:List Attr}:∀{l:List Cell} {p:Option Cell},(∀c∈l,cellE ds ats c=0)→CSorted l→(∀q,p=some q→∀c∈l,cmpL q.at_ c.at_<0)→cellsE ds ats p l=0
 |[],p,_,_,_=>by cases p<;>rfl
 |c::r,none,h,hs,_=>by
  unfold CSorted at hs
  rw[List.pairwise_cons]at hs
  rw[cellsE,if_neg (by rw[h c (by simp)];simp)]
  exact cellsE_of (fun d hd=>h d (by simp[hd])) hs.2 fun q hq d hd=>by simp only[Option.some.injEq]at hq;subst hq;exact hs.1 d hd
 |c::r,some p,h,hs,hp=>by
  unfold CSorted at hs
  rw[List.pairwise_cons]at hs
  have:=hp p rfl c (by simp)
  rw[cellsE,if_neg (by rw[h c (by simp)];simp),if_neg (by omega),if_neg (by omega)]
  exact cellsE_of (fun d hd=>h d (by simp[hd])) hs.2 fun q hq d hd=>by simp only[Option.some.injEq]at hq;subst hq;exact hs.1 d hd
theorem db_ok{st:Sto}(v:StoV st){out:List Nm}(h:DbRel st.arrays st.places out){i:Nat}{y:Nm}(hy:out[i]?=some y):arrE y.arr=0:=by
 obtain⟨x,hx,_,h2,h3,h4,h5⟩:=h i y hy
 have hs:=v.sch x (List.mem_of_getElem? hx)
 have hc:=cellsI_ok v.sch v.pls hx
 unfold arrE
 rw[h2,h3,if_neg (by rw[hs];simp),if_neg]
 ·exact cellsE_of (fun c hcm=>hc c (h4.mem_iff.1 hcm)) h5 fun q hq=>by cases hq
 ·have e:=h4.length_eq
  have:(cellsI st.arrays st.places i).length≤st.places.length:=by unfold cellsI;exact List.length_filterMap_le _ _
  have:=v.pn
  omega
theorem db_eq{s t:Sto}(v:StoV s)(u:StoV t)(ha:s.arrays=t.arrays)(hm:∀p,(getM s.places p).map (·.vals)=(getM t.places p).map (·.vals)){a b:List Nm}(h:DbRel s.arrays s.places a)(k:DbRel t.arrays t.places b){i:Nat}{x y:Nm}(hx:a[i]?=some x)(hy:b[i]?=some y):
 x.name=y.name∧sameA x.arr y.arr=true:=by
 have ex:=db_ok v h hx
 have ey:=db_ok u k hy
 obtain⟨p,hp,h1,h2,h3,h4,h5⟩:=h i x hx
 obtain⟨q,hq,k1,k2,k3,k4,k5⟩:=k i y hy
 rw[←ha,hp,Option.some.injEq]at hq
 subst hq
 have hc:x.arr.cells=y.arr.cells:=by
  refine csorted_eq ((List.perm_ext_iff_of_nodup (csorted_nd h5) (csorted_nd k5)).2 fun c=>?_) h5 k5
  rw[h4.mem_iff,k4.mem_iff,←ha]
  exact⟨cellsI_sub v.keys hm,cellsI_sub u.keys fun p=>(hm p).symm⟩
 have he:x.arr=y.arr:=by
  cases hxa:x.arr
  cases hya:y.arr
  rw[hxa]at h2 h3 hc
  rw[hya]at k2 k3 hc
  simp only at h2 h3 k2 k3 hc
  rw[h2,h3,hc,k2,k3]
 refine⟨h1.trans k1.symm,?_⟩
 unfold sameA
 rw[ex,ey,he]
 simp
end Go.Vc
namespace Go.Vc
open Go Go.Proofs
theorem three_R{α:Type}{t:Ty α}{w:World}{b T:Nat}{c1 c2 c3:List Value}{x y z:α}{M:List Nat}(hk:w.heap[b]?=some (.cells (c1++(c2++c3)).toArray T (0,0)))(hkM:b∉M)(h1:R t M w x c1)(h2:R t M w y c2)(h3:R t M w z c3):R (tSl t) M w [x,y,z] [.slice (some ⟨b,0,none⟩) 3 3]:=by
 have l1:c1.length=t.sz:=t.len h1
 have l2:c2.length=t.sz:=t.len h2
 refine⟨_,_,rfl,Nat.le_refl _,by show(3:Nat)≤140737488355328;omega,fun _=>⟨b,0,_,T,_,rfl,⟨block_lt hk,hkM⟩,hk,fun j u hu=>?_⟩⟩
 match j,hu with
 |0,hu =>
  simp at hu
  subst hu
  refine⟨_,h1,fun i v hv=>?_⟩
  have hi:i<c1.length:=(List.getElem?_eq_some_iff.1 hv).1
  simp only[List.toList_toArray,Nat.zero_mul,Nat.zero_add]
  rw[List.getElem?_append_left hi]
  exact hv
 |1,hu =>
  simp at hu
  subst hu
  refine⟨_,h2,fun i v hv=>?_⟩
  have hi:i<c2.length:=(List.getElem?_eq_some_iff.1 hv).1
  simp only[List.toList_toArray,Nat.one_mul,Nat.zero_add]
  rw[List.getElem?_append_right (by omega),l1,Nat.add_sub_cancel_left,List.getElem?_append_left hi]
  exact hv
 |2,hu =>
  simp at hu
  subst hu
  refine⟨_,h3,fun i v hv=>?_⟩
  simp only[List.toList_toArray,Nat.zero_add]
  rw[List.getElem?_append_right (by omega),List.getElem?_append_right (by omega)]
  have e:2*t.sz+i - c1.length - c2.length=i:=by omega
  rw[e]
  exact hv
 |j+3,hu=>simp at hu
theorem lputL{M Mc G:List Nat}{w:World}{s d n:Nat}{c:Int}{st:Sto}(h:SysL M w s d n c st G){b:Bt}{ca:Option Addr}{cn cc:Nat}(hc:R (tSl tCell) (G++Mc) w b.changes [.slice ca cn cc]):
 Calls Tryz.prog 27 #[.pointer (some ⟨s,0,none⟩),.agg #[.string b.token,.int .i64 b.stamp,.string b.array,.slice ca cn cc]] w fun e w'=>e=.returned (.bool ((st.putS ((n - 2) / 2) b).1&&decide ((st.putS ((n - 2) / 2) b).2.1=0)))∧
  ∃G',SysL M w' s d n c (st.putS ((n - 2) / 2) b).2.2 G'∧Own G w G' w':=by
 refine lput_vc fun k1 hk1 w1 hw1=>⟨((h.kp0 hw1).put (hc.kp0 hw1)).mono ?_⟩
 rintro e w2 ⟨rfl,G',h2,hO⟩
 have hO':Own G w G' w2:=(Own.of0 hw1).trans hO
 refine⟨_,_,rfl,_,hO.kp,⟨fun hm=>by have:=(h.own_lt k1 hm).1;omega⟩,fun hb=>⟨?_,G',h2,hO'⟩,fun hb=>⟨?_,G',h2,hO'⟩⟩
 ·rw[hb];simp
 ·rw[hb];simp
def nmT:ByteArray:=⟨#[116]⟩
def exC(x y n:Int):Cell:=⟨[x,y],[vNum n]⟩
def exB1:Bt:=⟨⟨#[97]⟩,5,nmT,[exC 0 0 1,exC 1 0 2]⟩
def exB2:Bt:=⟨⟨#[98]⟩,4,nmT,[exC 1 0 3,exC 3 1 4]⟩
def exS0(i:Int):Sto:={ fmtSto [exNm] with id:=i }
def exS1(i:Int):Sto:=(exS0 i).commit exB1
def exS2(i:Int):Sto:=(exS1 i).commit exB2
theorem ex_put1(i:Int):(exS0 i).putS 31 exB1=(true,0,exS1 i):=by
 unfold Sto.putS
 rw[if_neg,if_neg,if_neg]
 ·rfl
 ·show ¬(31:Int)<9+8
  omega
 ·show ¬([]:List Seen).any _=true
  simp
 ·rw[Classical.not_not]
  kernel_rfl
theorem ex_put2(i:Int):(exS1 i).putS 31 exB2=(true,0,exS2 i):=by
 unfold Sto.putS
 rw[if_neg,if_neg,if_neg]
 ·rfl
 ·show ¬(31:Int)<17+8
  omega
 ·show ¬([exB1.seen]:List Seen).any (fun x=>decide (x.token=exB2.token))=true
  decide
 ·rw[Classical.not_not]
  kernel_rfl
theorem ex_cells(i:Int):cellsI (exS2 i).arrays (exS2 i).places 0=[exC 0 0 1,exC 1 0 2,exC 3 1 4]:=by kernel_rfl
theorem ex_db:dbE [exNm]=0:=by kernel_rfl
theorem lmade_ok{M:List Nat}{w:World}(hM:∀b∈M,b<w.heap.size):Calls Tryz.prog 24 #[] w fun e w'=>KpL [] w w'∧∃d s G i,e=.returned (.tuple #[.pointer (some ⟨d,0,none⟩),.pointer (some ⟨s,0,none⟩),.bool true])∧SysL M w' s d 64 1 (exS2 i) G∧∀b∈G,w.heap.size≤b:=by
 have hmx:maxSl=140737488355328:=rfl
 refine lmade_vc (u:=0) ⟨(newDisk_ok (n:=64) hM (by omega) (by omega)).mono ?_⟩
 rintro e w1 ⟨d,Fd,rfl,hk1,hD,hnew⟩
 refine⟨_,_,rfl,hk1,⟨(lexample_ok (M:=[]) (by simp)).mono ?_⟩⟩
 rintro e w2 ⟨a2,n2,c2,rfl,hk2,hR⟩
 refine⟨_,_,_,rfl,hk2,⟨(fmtL (hD.kp0 hk2) (by omega) (by omega) hR (by decide)).mono ?_⟩⟩
 intro e w3 hh
 rw[if_neg (by rw[ex_db];simp),if_neg (by show ¬(31:Int)<9;omega)]at hh
 obtain⟨s,G,i,rfl,hS,hO⟩:=hh
 have hnew2:∀b∈Fd,w.heap.size≤b:=hnew
 have k03:KpL [] w w3:=(hk1.trans hk2).more hO.kp fun b hb=>.inr (hnew2 b hb)
 have hG:∀b∈G,w.heap.size≤b:=fun b hb=>(hO.new b hb).elim (hnew2 b) fun hge=>Nat.le_trans (hk1.trans hk2).size hge
 refine⟨_,_,rfl,Fd,hO.kp,fun _=>⟨fun _=>⟨fun _=>⟨fun hc=>(by cases hc),fun _=>?_⟩,fun hc=>(by cases hc)⟩,fun hc=>absurd rfl hc⟩,fun hc=>absurd rfl hc⟩
 refine⟨hS.room.mono ?_⟩
 rintro e w4 ⟨rfl,hk4⟩
 refine⟨_,_,rfl,hk4,fun _=>⟨fun _=>?_,fun hc=>absurd rfl hc⟩,fun hc=>absurd (show(((64 - 2) / 2:Nat):Int) - 9=22 from rfl) hc⟩
 have hS4:=hS.kp0 hk4
 have s4:=hk4.size
 have gl4:∀b∈G,b<w4.heap.size:=fun b hb=>(hS4.own_lt b hb).1
 intro k3 hk3 w5 hw5 hkn5
 have gl5:∀b∈G,b<w5.heap.size:=fun b hb=>Nat.lt_of_lt_of_le (gl4 b hb) hw5.size
 refine⟨(lat_ok (M:=G) gl5 (x:=0) (y:=0) (ini_i64.2 (by omega)) (ini_i64.2 (by omega)) (one_R (t:=tI .i64) (x:=(1:Int)) (M:=[]) hkn5 (by simp) ⟨rfl,ini_i64.2 (by omega)⟩)).mono ?_⟩
 rintro e w6 ⟨a4,k4,k5,a5,k6,k7,rfl,hk6,hc1⟩
 refine⟨_,_,_,_,_,_,rfl,hk6,fun k8 hk8 w7 hw7 hkn7=>?_⟩
 have gl7:∀b∈G,b<w7.heap.size:=fun b hb=>Nat.lt_of_lt_of_le (gl5 b hb) (hk6.trans hw7).size
 refine⟨(lat_ok (M:=G) gl7 (x:=1) (y:=0) (ini_i64.2 (by omega)) (ini_i64.2 (by omega)) (one_R (t:=tI .i64) (x:=(2:Int)) (M:=[]) hkn7.1 (by simp) ⟨rfl,ini_i64.2 (by omega)⟩)).mono ?_⟩
 rintro e w8 ⟨a6,k9,k10,a7,k11,k12,rfl,hk8',hc2⟩
 refine⟨_,_,_,_,_,_,rfl,hk8',fun k13 hk13 w9 hw9 hkn9=>⟨(lbatch_ok w9 _ _ _ _ _).mono ?_⟩⟩
 rintro e w10 ⟨rfl,hk10⟩
 refine⟨_,_,_,_,_,_,rfl,hk10,fun hkn10=>?_⟩
 have k410:KpL [] w4 w10:=((((hw5.trans hk6).trans hw7).trans hk8').trans hw9).trans hk10
 have hS10:=hS4.kp0 k410
 have s8:w4.heap.size≤w8.heap.size:=(((hw5.trans hk6).trans hw7).trans hk8').size
 have hb1:R (tSl tCell) (G++[]) w10 exB1.changes [.slice (some ⟨k13,0,none⟩) 2 2]:=by
  rw[List.append_nil]
  exact pair_R (t:=tCell) (c1:=[_,_]) (c2:=[_,_]) hkn10.1 (fun hm=>by have:=gl4 _ hm;omega) (hc1.kp0 (((hw7.trans hk8').trans hw9).trans hk10)) (hc2.kp0 (hw9.trans hk10))
 refine⟨(lputL (st:=exS0 i) (b:=exB1) hS10 hb1).mono ?_⟩
 rintro e w11 ⟨rfl,G1,hS11,hO11⟩
 have e31:(64 - 2) / 2=31:=rfl
 rw[e31,ex_put1]at hS11
 rw[e31,ex_put1]
 have gno:∀k,w4.heap.size≤k→k∉G:=fun k hk hm=>by have:=gl4 _ hm;omega
 have k011:KpL [] w w11:=((k03.trans hk4).trans k410).more hO11.kp fun b hb=>.inr (hG b hb)
 have hG1:∀b∈G1,w.heap.size≤b:=fun b hb=>(hO11.new b hb).elim (hG b) fun hge=>Nat.le_trans ((k03.trans hk4).trans k410).size hge
 have s5:=hw5.size
 have s6:=hk6.size
 have s7:=hw7.size
 refine⟨_,rfl,G,hO11.kp,⟨⟨gno _ (by omega)⟩,⟨gno _ (by omega)⟩,⟨gno _ (by omega)⟩⟩,fun _=>?_,fun hc=>(by simp at hc)⟩
 have gl11:∀b∈G1,b<w11.heap.size:=fun b hb=>(hS11.own_lt b hb).1
 intro k16 hk16 w12 hw12 hkn12
 have gl12:∀b∈G1,b<w12.heap.size:=fun b hb=>Nat.lt_of_lt_of_le (gl11 b hb) hw12.size
 refine⟨(lat_ok (M:=G1) gl12 (x:=1) (y:=0) (ini_i64.2 (by omega)) (ini_i64.2 (by omega)) (one_R (t:=tI .i64) (x:=(3:Int)) (M:=[]) hkn12.1 (by simp) ⟨rfl,ini_i64.2 (by omega)⟩)).mono ?_⟩
 rintro e w13 ⟨a9,k17,k18,a10,k19,k20,rfl,hk13',hc3⟩
 refine⟨_,_,_,_,_,_,rfl,hk13',fun k21 hk21 w14 hw14 hkn14=>?_⟩
 have gl14:∀b∈G1,b<w14.heap.size:=fun b hb=>Nat.lt_of_lt_of_le (gl12 b hb) (hk13'.trans hw14).size
 refine⟨(lat_ok (M:=G1) gl14 (x:=3) (y:=1) (ini_i64.2 (by omega)) (ini_i64.2 (by omega)) (one_R (t:=tI .i64) (x:=(4:Int)) (M:=[]) hkn14.1 (by simp) ⟨rfl,ini_i64.2 (by omega)⟩)).mono ?_⟩
 rintro e w15 ⟨a11,k22,k23,a12,k24,k25,rfl,hk15,hc4⟩
 refine⟨_,_,_,_,_,_,rfl,hk15,fun k26 hk26 w16 hw16 hkn16=>⟨(lbatch_ok w16 _ _ _ _ _).mono ?_⟩⟩
 rintro e w17 ⟨rfl,hk17⟩
 refine⟨_,_,_,_,_,_,rfl,hk17,fun hkn17=>?_⟩
 have k1117:KpL [] w11 w17:=((((hw12.trans hk13').trans hw14).trans hk15).trans hw16).trans hk17
 have hS17:=hS11.kp0 k1117
 have s15:w11.heap.size≤w15.heap.size:=(((hw12.trans hk13').trans hw14).trans hk15).size
 have hb2:R (tSl tCell) (G1++[]) w17 exB2.changes [.slice (some ⟨k26,0,none⟩) 2 2]:=by
  rw[List.append_nil]
  exact pair_R (t:=tCell) (c1:=[_,_]) (c2:=[_,_]) hkn17.1 (fun hm=>by have:=gl11 _ hm;omega) (hc3.kp0 (((hw14.trans hk15).trans hw16).trans hk17)) (hc4.kp0 (hw16.trans hk17))
 refine⟨(lputL (st:=exS1 i) (b:=exB2) hS17 hb2).mono ?_⟩
 rintro e w18 ⟨rfl,G2,hS18,hO18⟩
 rw[e31,ex_put2]at hS18
 rw[e31,ex_put2]
 have s12:=hw12.size
 have s13:=hk13'.size
 have s14:=hw14.size
 have s1011:=hO11.kp.size
 have s9:=hw9.size
 have s10:=hk10.size
 have s8':=hk8'.size
 have l13:=block_lt hkn10.1
 have l8:=block_lt hkn10.2.1
 have l3:=block_lt hkn10.2.2
 have gno1:∀k,w11.heap.size≤k→k∉G1:=fun k hk hm=>by have:=gl11 _ hm;omega
 have gno2:∀k,w4.heap.size≤k→k<w10.heap.size→k∉G1:=fun k hk hk' hm=>(hO11.new k hm).elim (gno k hk) fun hge=>by omega
 have fin:KpL [] w w18∧∀b∈G2,w.heap.size≤b:=⟨(k011.trans k1117).more hO18.kp fun b hb=>.inr (hG1 b hb),fun b hb=>(hO18.new b hb).elim (hG1 b) fun hge=>Nat.le_trans (k011.trans k1117).size hge⟩
 refine⟨_,rfl,G1,hO18.kp,⟨⟨gno1 _ (by omega)⟩,⟨gno1 _ (by omega)⟩,⟨gno1 _ (by omega)⟩,⟨gno2 _ (by omega) l13⟩,⟨gno2 _ (by omega) l8⟩,⟨gno2 _ (by omega) l3⟩⟩,fun _=>⟨fin.1,d,s,G2,i,by simp,hS18,fin.2⟩⟩
theorem lworks_ok(w:World):Calls Tryz.prog 9 #[] w (PureR (.bool true) w):=by
 refine lworks_vc (u:=0) ⟨(lmade_ok (M:=[]) (by simp)).mono ?_⟩
 rintro e w1 ⟨hk1,d,s,G,i,rfl,hS,hG⟩
 refine⟨_,_,_,rfl,[],hk1,fun _=>?_,fun hc=>(by cases hc)⟩
 intro k1 hk1' w2 hw2 hkn2
 refine⟨(lat_ok (M:=[]) (by simp) (x:=0) (y:=0) (ini_i64.2 (by omega)) (ini_i64.2 (by omega)) (one_R (t:=tI .i64) (x:=(1:Int)) (M:=[]) hkn2 (by simp) ⟨rfl,ini_i64.2 (by omega)⟩)).mono ?_⟩
 rintro e w3 ⟨a3,k2,k3,a4,k4,k5,rfl,hk3,hc1⟩
 refine⟨_,_,_,_,_,_,rfl,hk3,fun k6 hk6 w4 hw4 hkn4=>?_⟩
 refine⟨(lat_ok (M:=[]) (by simp) (x:=1) (y:=0) (ini_i64.2 (by omega)) (ini_i64.2 (by omega)) (one_R (t:=tI .i64) (x:=(2:Int)) (M:=[]) hkn4.1 (by simp) ⟨rfl,ini_i64.2 (by omega)⟩)).mono ?_⟩
 rintro e w5 ⟨a5,k7,k8,a6,k9,k10,rfl,hk5,hc2⟩
 refine⟨_,_,_,_,_,_,rfl,hk5,fun k11 hk11 w6 hw6 hkn6=>?_⟩
 refine⟨(lat_ok (M:=[]) (by simp) (x:=3) (y:=1) (ini_i64.2 (by omega)) (ini_i64.2 (by omega)) (one_R (t:=tI .i64) (x:=(4:Int)) (M:=[]) hkn6.1 (by simp) ⟨rfl,ini_i64.2 (by omega)⟩)).mono ?_⟩
 rintro e w7 ⟨a7,k12,k13,a8,k14,k15,rfl,hk7,hc3⟩
 refine⟨_,_,_,_,_,_,rfl,hk7,fun k16 hk16 w8 hw8 hkn8=>?_⟩
 have k18:KpL [] w1 w8:=(((((hw2.trans hk3).trans hw4).trans hk5).trans hw6).trans hk7).trans hw8
 have hcs:R (tSl tCell) [] w8 [exC 0 0 1,exC 1 0 2,exC 3 1 4] [.slice (some ⟨k16,0,none⟩) 3 3] :=
  three_R (t:=tCell) (c1:=[_,_]) (c2:=[_,_]) (c3:=[_,_]) hkn8.1 (by simp) (hc1.kp0 ((((hw4.trans hk5).trans hw6).trans hk7).trans hw8)) (hc2.kp0 ((hw6.trans hk7).trans hw8)) (hc3.kp0 hw8)
 have hsort:CSorted [exC 0 0 1,exC 1 0 2,exC 3 1 4]:=by
  unfold CSorted
  simp only[List.pairwise_cons,List.mem_cons,List.not_mem_nil,or_false,forall_eq_or_imp,forall_eq,List.Pairwise.nil,and_true]
  exact⟨⟨by decide,by decide⟩,by decide,fun _ h=>h.elim⟩
 refine⟨(lhas_ok (hS.kp0 k18) hcs rfl (fun ys hp hs=>csorted_eq (by rw[ex_cells]at hp;exact hp) hs hsort) (by decide)).mono ?_⟩
 rintro e w9 ⟨rfl,hk9⟩
 refine⟨_,rfl,hk9,fun hc=>(by cases hc),fun _ _=>⟨((hS.kp0 k18).kp0 hk9).room.mono ?_⟩⟩
 rintro e w10 ⟨rfl,hk10⟩
 exact⟨_,_,rfl,hk10,fun _ _=>⟨rfl,((hk1.trans k18).trans hk9).trans hk10⟩,fun hc=>absurd (show(((64 - 2) / 2:Nat):Int) - 25=6 from rfl) hc⟩
end Go.Vc
namespace Go.Vc
open Go Go.Proofs
open Go.Value Go.Ending Go.IntKind
set_option maxRecDepth 100000
theorem lequal_vc{s:Nat}{t:Nat}{w:World}{R:Ending→World→Prop}
 (h :
 CallW Tryz.prog 16 #[pointer (some (Addr.mk s 0 none))] w fun e1 w1 =>
 ∃a1 k1 k2 n1,e1=returned (tuple #[slice a1 k1 k2,int i64 n1])∧
 KpL [] w w1∧
 CallW Tryz.prog 16 #[pointer (some (Addr.mk t 0 none))] w1 fun e2 w2 =>
 ∃a2 k3 k4 n2,e2=returned (tuple #[slice a2 k3 k4,int i64 n2])∧
 KpL [] w1 w2∧
 CallW Tryz.prog 30 #[pointer (some (Addr.mk s 0 none))] w2 fun e3 w3 =>
 ∃a3 k5 k6 n3,e3=returned (tuple #[slice a3 k5 k6,int i64 n3])∧
 KpL [] w2 w3∧
 CallW Tryz.prog 30 #[pointer (some (Addr.mk t 0 none))] w3 fun e4 w4 =>
 ∃a4 k7 k8 n4,e4=returned (tuple #[slice a4 k7 k8,int i64 n4])∧
 KpL [] w3 w4∧
 (¬n1≠0→
 (¬n2≠0→
 (¬n3≠0→
 (¬n4≠0→
 ((↑k1:Int)≠(↑k3:Int)→
 R (returned (Value.bool false)) w4)∧
 (¬(↑k1:Int)≠(↑k3:Int)→
 ∃(P1:List Value→World→Prop) (P2:List Value→World→Nat),P1 [int i64 0] w4∧
 ∀n5 w5,P1 [int i64 n5] w5→
 (n5<(↑k1:Int)→
 ∃d1,a1=some d1∧
 0≤n5∧
 n5<(↑k1:Int)∧
 ∃s1,LdA w5 ((d1.add (n5.toNat*4)).add 0) [string s1]∧
 ∃d2,a2=some d2∧
 0≤n5∧
 n5<(↑k3:Int)∧
 ∃s2,LdA w5 ((d2.add (n5.toNat*4)).add 0) [string s2]∧
 (¬s1≠s2→
 ∃d3,a1=some d3∧
 0≤n5∧
 n5<(↑k1:Int)∧
 ∃a5 k9 k10 a6 k11 k12 a7 k13 k14,LdA w5 ((d3.add (n5.toNat*4)).add 1) [slice a5 k9 k10,slice a6 k11 k12,slice a7 k13 k14]∧
 ∃d4,a2=some d4∧
 0≤n5∧
 n5<(↑k3:Int)∧
 ∃a8 k15 k16 a9 k17 k18 a10 k19 k20,LdA w5 ((d4.add (n5.toNat*4)).add 1) [slice a8 k15 k16,slice a9 k17 k18,slice a10 k19 k20]∧
 ∀w6,KpL [] w5 w6→
 CallW Tryz.prog 17 (#[agg #[slice a5 k9 k10,slice a6 k11 k12,slice a7 k13 k14],agg #[slice a8 k15 k16,slice a9 k17 k18,slice a10 k19 k20]]) w6 fun e5 w7 =>
 ∃b1,e5=returned (Value.bool b1)∧
 KpL [] w6 w7∧
 ((!b1)=true→
 R (returned (Value.bool false)) w7)∧
 ((!b1)=false→
 InI i64 (n5+1)∧
 P1 [int i64 (n5+1)] w7∧
 P2 [int i64 (n5+1)] w7<P2 [int i64 n5] w5))∧
 (s1≠s2→
 ∀w8,KpL [] w5 w8→
 R (returned (Value.bool false)) w8))∧
 (¬n5<(↑k1:Int)→
 CallW Tryz.prog 31 #[slice a3 k5 k6,slice a4 k7 k8] w5 fun e6 w9 =>
 ∃b2,e6=returned (Value.bool b2)∧
 KpL [] w5 w9∧
 R (returned (Value.bool b2)) w9)))∧
 (n4≠0→
 R (returned (Value.bool false)) w4))∧
 (n3≠0→
 R (returned (Value.bool false)) w4))∧
 (n2≠0→
 R (returned (Value.bool false)) w4))∧
 (n1≠0→
 R (returned (Value.bool false)) w4)):Calls Tryz.prog 41 #[pointer (some (Addr.mk s 0 none)),pointer (some (Addr.mk t 0 none))] w R :=
 fnc0 (an:={ loops:=[⟨8,[13],[4,55,56,57,58,59,60,61,62,63,64,65,66,67,68,69,70,71,72,73,74,75,76,77,78,79,80,81,82,83,84,85],[]⟩] }) (args:=[.a (.c (.v (.pointer (some ⟨s,0,none⟩)))),.a (.c (.v (.pointer (some ⟨t,0,none⟩))))]) Tryz_ok Tryz.func41 (by kernel_rfl) rfl rfl h
end Go.Vc
namespace Go.Vc
open Go Go.Proofs
theorem On1.write0{k:Dk}(h:On1 k)(i:Nat)(b:List Int):(k.write i b).1=0:=by
 have hp:On1 (k.put i b):=h
 unfold Dk.write
 rw[if_neg (by simp[h.1]),hp.fails]
 rfl
theorem On1.note_eq{k:Dk}(h:On1 k)(num:Int):(k.note num).2.dur=(k.note num).2.now:=by
 unfold Dk.note
 rw[if_neg (by rw[h.write0];simp)]
 have h2:=h.write (num%2).toNat (noteOf num)
 unfold Dk.sync
 rw[if_neg (by simp[h2.1]),h2.fails,if_neg (by simp)]
theorem Lq.fmt{k:Dk}(h:Cl k)(h2:10≤k.n)(n1:k.n≤1024)(k0:0≤k.st){db:List Nm}(hdb:dbE db=0)(hne:db.length≠0)(hu:(fmtSto db).use≤k.half){ps':List (Pl×Sta)}(hp:ps'.Perm (fmtPl 0 db)):
 ∀i,i=k.st+1→Lq { (k.fmt (encBase (db.map fmtArr) [] ps')).2 with st:=i } 1 (0+1+secsOf (encBase (db.map fmtArr) [] ps')) { fmtSto db with id:=i }∧(k.fmt (encBase (db.map fmtArr) [] ps')).2.fuse = -1:=by
 rintro i rfl
 obtain⟨f1,f2,f3,f4,f5,f6⟩:=Lv.fmt h h2 n1 k0 hdb hne hu hp
 obtain⟨v,id,k0',n1',lo,hi,nx,_⟩:=f6 _ rfl
 have hhalf:k.half≤511:=by unfold Dk.half Dk.secs;omega
 have eu:(fmtSto db).use=1+8*((db.map fmtArr).length:Int)+3*((fmtPl 0 db).length:Int)+(([]:List Seen).length:Int):=rfl
 simp only[List.length_nil]at eu
 have hv:=fmtSto_ok hdb hne (by omega)
 have hs:=encBase_secs hv (ps:=ps') hp
 have hlen:=encBase_len hv (ps:=ps') hp
 have ea:(fmtSto db).arrays=db.map fmtArr:=rfl
 have eb:(fmtSto db).batches=[]:=rfl
 have ep:(fmtSto db).places=fmtPl 0 db:=rfl
 rw[ea,eb,ep]at hs hlen
 simp only[List.length_nil]at hs hlen
 have hpl:=hp.length_eq
 obtain⟨_,g2,g3,g4,_,_⟩:=DkS.format h h2 (arrays:=db.map fmtArr) (ps:=ps') (by omega) (by omega)
 obtain⟨z1,z2,z3,z4,z5,z6⟩:=h.zero
 obtain⟨a1,a2,_,_,_,_,_,_,_⟩:=z2.add (num:=1) (nxt:=0) (q:=1) (b:=encBase (db.map fmtArr) [] ps') (by omega) (by omega) (by rw[Dk.half_n z3];omega)
 have e:k.fmt (encBase (db.map fmtArr) [] ps')=(k.zero.2.add 1 0 1 (encBase (db.map fmtArr) [] ps')).2.note 1:=by unfold Dk.fmt;rw[if_neg (by simp[z1]),if_neg (by simp[a1])]
 have ho1:On1 (k.zero.2.add 1 0 1 (encBase (db.map fmtArr) [] ps')).2:=⟨a2.on,a2.fu⟩
 have he:(k.fmt (encBase (db.map fmtArr) [] ps')).2.dur=(k.fmt (encBase (db.map fmtArr) [] ps')).2.now:=by rw[e];exact ho1.note_eq 1
 have hz:secOf (k.fmt (encBase (db.map fmtArr) [] ps')).2.now (1 - ((1:Int)%2).toNat)=zeros:=by
  rcases g2.note.2 with g|⟨m,m0,m1,g⟩
  ·exact g
  ·have:m=0:=by omega
   rw[g,this]
   decide
 have q:=g2.q he hz rfl
 have hbase:StoV (baseSto (db.map fmtArr) [] ps'):=by
  refine⟨hv.a1,hv.an,hv.nms,hv.nd,hv.sch,hv.cel,hv.bn,hv.bat,hv.toks,?_,fun p hpp=>hv.pls p (hp.mem_iff.1 hpp),(hp.map _).nodup_iff.2 hv.keys,?_,?_⟩
  ·show ps'.length≤4000
   omega
  ·show(0:Int)≤1+8*(db.map fmtArr).length+3*ps'.length+(0:Nat)
   omega
  ·show(1:Int)+8*(db.map fmtArr).length+3*ps'.length+(0:Nat)≤100000
   omega
 refine⟨⟨v,id,k0',n1',lo,hi,nx,[],ps',[],⟨⟨⟨q.r.qt.on,q.r.qt.pe,q.r.qt.eq,q.r.qt.len⟩,q.r.n2,q.r.num0,q.r.num1,q.r.rd⟩,q.z⟩,hbase,by simp,rfl,rfl,hp,?_⟩,g2.cl.fu⟩
 show(1:Int)+8*(db.map fmtArr).length+3*ps'.length+(0:Nat)=(fmtSto db).use
 rw[eu,hpl]
def fxOf(n:Nat)(db:List Nm):Fx:=⟨db.map fmtArr,fmtPl 0 db,n⟩
theorem lformattedQ{M Mdb:List Nat}{w:World}(hM:∀b∈M,b<w.heap.size){n:Nat}(h1:64≤n)(h2:n≤1024){db:List Nm}{dba:Option Addr}{dbn dbc:Nat}(hd:R (tSl tNm) Mdb w db [.slice dba dbn dbc])(hp:(fmtPl 0 db).length≤4000):
 Calls Tryz.prog 12 #[.int .i64 n,.slice dba dbn dbc] w fun e w'=>KpL [] w w'∧if okDb n db then ∃d s G,e=.returned (.tuple #[.pointer (some ⟨d,0,none⟩),.pointer (some ⟨s,0,none⟩),.bool true])∧SysQ (fxOf n db) M w' s d true 1 (fmtSto db).use [] G∧∀b∈G,w.heap.size≤b
  else ∃a1 a2,e=.returned (.tuple #[.pointer a1,.pointer a2,.bool false]):=by
 have hcl:Cl (newDk n):=⟨rfl,rfl,by simp[newDk]⟩
 have en:(newDk n).n=n:=rfl
 have es:(newDk n).st=0:=rfl
 have eh:(newDk n).half=(n - 2) / 2:=rfl
 refine lformatted_vc ⟨(newDisk_ok hM h1 (by omega)).mono ?_⟩
 rintro e w1 ⟨d,Fd,rfl,hk1,hD,hnew⟩
 refine⟨_,_,rfl,hk1,⟨(sFormat_ok hD (hd.kp0 hk1) hp (by simp[newDk]) (by omega) fun g1 g2 g3 g4 ps' hps=>?_).mono ?_⟩⟩
 ·obtain⟨f1,f2,f3,f4,f5,f6⟩:=Lv.fmt hcl (by omega) h2 (by omega) g1 g2 g4 hps
  exact⟨fun _=>f4,fun _ _=>by rw[f5];simp,by rw[f2,es];exact ini_i64.2 (by omega)⟩
 intro e w2 hh
 split at hh
 ·rename_i hz
  obtain⟨rfl,hk2⟩:=hh
  refine⟨_,_,rfl,[],hk2,fun _=>⟨fun hc=>absurd hc (by omega),fun _=>⟨hk1.trans hk2,?_⟩⟩,fun hc=>absurd rfl hc⟩
  rw[if_neg]
  ·exact⟨_,_,rfl⟩
  ·rintro⟨g1,g2,_⟩;rcases hz with hz|hz
   ·exact hz g1
   ·exact g2 hz
 rename_i hz
 rw[if_neg (by simp[newDk]),eh]at hh
 split at hh
 ·rename_i hz2
  obtain⟨rfl,hk2⟩:=hh
  refine⟨_,_,rfl,[],hk2,fun _=>⟨fun hc=>absurd hc (by omega),fun _=>⟨hk1.trans hk2,?_⟩⟩,fun hc=>absurd rfl hc⟩
  rw[if_neg]
  ·exact⟨_,_,rfl⟩
  ·rintro⟨_,_,g3⟩;omega
 rename_i hz2
 obtain⟨ps',hps,hh⟩:=hh
 have g1:dbE db=0:=by omega
 have g2:db.length≠0:=fun hc=>hz (.inr hc)
 obtain⟨f1,f2,f3,f4,f5,f6⟩:=Lv.fmt hcl (by omega) h2 (by omega) g1 g2 (by rw[eh];omega) hps
 rw[if_neg (by simp[f1])]at hh
 obtain⟨s,l,F,Fd',rfl,h',hO⟩:=hh
 obtain⟨q1,q2⟩:=Lq.fmt hcl (by omega) h2 (by omega) g1 g2 (by rw[eh];omega) hps (((newDk n).fmt (encBase (db.map fmtArr) [] ps')).2.st+1) (by rw[f2])
 have hkG:KpL [] w w2:=hk1.more hO.kp fun b hb=>.inr (hnew b hb)
 refine⟨_,_,rfl,Fd,hO.kp,fun _=>⟨fun _=>⟨fun _=>⟨hkG,?_⟩,fun hc=>absurd (fun h=>by cases h) hc⟩,fun hc=>absurd rfl hc⟩,fun hc=>absurd rfl hc⟩
 rw[if_pos ⟨g1,g2,by omega⟩]
 refine⟨d,s,F++Fd',by simp,⟨l,1,_,_,F,Fd',_,h',q1,(Run.start (L:=[]) _).aft,Int.le_refl _,?_,f3,Int.le_refl _,by dsimp only;rw[f2,es];omega,fun _=>q2,rfl⟩,fun b hb=>?_⟩
 ·show(fmtSto db).use≤(halfN n:Nat)
  unfold halfN;omega
 ·rcases hO.new b hb with hb|hb
  ·exact hnew b hb
  ·exact Nat.le_trans hk1.size hb
theorem SysQ.st{X:Fx}{M G:List Nat}{w:World}{s d:Nat}{z:Bool}{m U:Int}{B:List Bt}(h:SysQ X M w s d z m U B G):∃st,StoV st∧Aft X.arrs X.P0 B st∧∀w',KpL [] w w'→
 (Calls Tryz.prog 16 #[.pointer (some ⟨s,0,none⟩)] w' fun e w''=>KpL [] w' w''∧∃out a q c,e=.returned (.tuple #[.slice a q c,.int .i64 0])∧out.length=st.arrays.length∧DbRel st.arrays st.places out∧R (tSl tNm) [] w'' out [.slice a q c])∧
 (Calls Tryz.prog 30 #[.pointer (some ⟨s,0,none⟩)] w' fun e w''=>∃a q c,e=.returned (.tuple #[.slice a q c,.int .i64 0])∧KpL [] w' w''∧R (tSl tS) [] w'' (B.map (·.token)) [.slice a q c]):=by
 obtain⟨l,num,nxt,k,F,Fd,st,hS,hL,hA,_⟩:=h
 refine⟨st,hL.v,hA,fun w' hk=>⟨?_,?_⟩⟩
 ·refine(sDB_ok (hS.kp0 hk).sto (hS.kp0 hk).dk hL.v (M:=[]) (by simp)).mono ?_
  rintro e w'' ⟨h1,h2⟩
  rw[if_neg (by simp[hL.ready])]at h2
  exact⟨h1,h2⟩
 ·have:=tokens_ok (N:=[]) (by simp) (hS.kp0 hk).sto (hS.kp0 hk).dk (by have:=hL.v.bn;omega)
  rw[hL.ready,if_neg (by simp),hA.bat,List.map_map]at this
  exact this
theorem strD{M:List Nat}{w:World}{v:ByteArray}{cs:List Value}(h:R tS M w v cs):cs=[.string v]:=h.1
theorem sameStrings_ok{M M':List Nat}{w:World}{xs ys:List ByteArray}{a b:Option Addr}{n c m q:Nat}(hx:R (tSl tS) M w xs [.slice a n c])(hy:R (tSl tS) M' w ys [.slice b m q]):Calls Tryz.prog 31 #[.slice a n c,.slice b m q] w (PureR (.bool (decide (xs=ys))) w):=by
 obtain⟨rfl,hn1,hn2⟩:=hx.sl_len
 obtain⟨rfl,hm1,hm2⟩:=hy.sl_len
 have hmx:maxSl=140737488355328:=rfl
 refine sameStrings_vc ⟨fun hne=>?_,fun he=>⟨fun vs w'=>∃i:Nat,vs=[.int .i64 (i:Int)]∧KpL [] w w'∧i≤xs.length∧xs.take i=ys.take i,fun vs _=>match vs with|[.int _ i]=>xs.length - i.toNat|_=>0,⟨0,rfl,KpL.refl _ _,by omega,by simp⟩,?_⟩⟩
 ·have:xs≠ys:=by rintro rfl;exact hne rfl
  rw[decide_eq_false this]
  exact⟨rfl,KpL.refl _ _⟩
 have hl:xs.length=ys.length:=by omega
 rintro n1 w1 ⟨i,hv,hk,hi,ht⟩
 simp only[List.cons.injEq,Value.int.injEq,true_and,and_true]at hv
 subst hv
 constructor
 ·intro hlt
  have h1:i<xs.length:=by omega
  have h2:i<ys.length:=by omega
  obtain⟨ad,cs,rfl,hv1,hld1,_,_⟩:=(hx.kp0 hk).sl_get h1
  obtain⟨ad2,cs2,rfl,hv2,hld2,_,_⟩:=(hy.kp0 hk).sl_get h2
  have e1:=strD hv1
  have e2:=strD hv2
  subst e1 e2
  refine⟨ad,rfl,by omega,hlt,_,hld1,ad2,rfl,by omega,by omega,_,hld2,fun hne w2 hw2=>?_,fun heq=>⟨ini_i64.2 (by omega),fun w3 hw3=>⟨⟨i+1,rfl,hk.trans hw3,by omega,take_eq h1 h2 ht (Classical.not_not.1 heq)⟩,by dsimp only;omega⟩⟩⟩
  rw[decide_eq_false (get_ne h1 h2 hne)]
  exact⟨rfl,hk.trans hw2⟩
 ·intro hge
  have:xs=ys:=by
   rw[←List.take_length (l:=xs),←List.take_length (l:=ys),←hl,show xs.length=i from by omega]
   exact ht
  rw[decide_eq_true this]
  exact⟨rfl,hk⟩
theorem lequal_ok{X:Fx}{M1 M2 G1 G2:List Nat}{w:World}{s t d1 d2:Nat}{z1 z2:Bool}{m1 m2 U1 U2:Int}{B1 B2:List Bt}(h1:SysQ X M1 w s d1 z1 m1 U1 B1 G1)(h2:SysQ X M2 w t d2 z2 m2 U2 B2 G2):
 Calls Tryz.prog 41 #[.pointer (some ⟨s,0,none⟩),.pointer (some ⟨t,0,none⟩)] w fun e w'=>∃b:Bool,e=.returned (.bool b)∧KpL [] w w'∧(B1=B2→b=true)∧(B1.length≠B2.length→b=false):=by
 have hmx:maxSl=140737488355328:=rfl
 obtain⟨s1,v1,A1,c1⟩:=h1.st
 obtain⟨s2,v2,A2,c2⟩:=h2.st
 have harr:s1.arrays=s2.arrays:=A1.arr.trans A2.arr.symm
 refine lequal_vc ⟨(c1 w (KpL.refl _ _)).1.mono ?_⟩
 rintro e w1 ⟨hw1,A,aa,am,aq,rfl,hAl,hAr,hAR⟩
 refine⟨_,_,_,_,rfl,hw1,⟨(c2 w1 hw1).1.mono ?_⟩⟩
 rintro e w2 ⟨hw2,B,ba,bm,bq,rfl,hBl,hBr,hBR⟩
 have k2:=hw1.trans hw2
 refine⟨_,_,_,_,rfl,hw2,⟨(c1 w2 k2).2.mono ?_⟩⟩
 rintro e w3 ⟨ta,tm,tq,rfl,hw3,hT1⟩
 refine⟨_,_,_,_,rfl,hw3,⟨(c2 w3 (k2.trans hw3)).2.mono ?_⟩⟩
 rintro e w4 ⟨ua,um,uq,rfl,hw4,hT2⟩
 have k4:=(k2.trans hw3).trans hw4
 obtain⟨rfl,_,_⟩:=hAR.sl_len
 obtain⟨rfl,_,_⟩:=hBR.sl_len
 have hAB:A.length=B.length:=by rw[hAl,hBl,harr]
 have no:∀{w':World},KpL [] w w'→¬B1=B2→∃b:Bool,Ending.returned (.bool false)=.returned (.bool b)∧KpL [] w w'∧(B1=B2→b=true)∧(B1.length≠B2.length→b=false):=fun hk hne=>⟨false,rfl,hk,fun hc=>absurd hc hne,fun _=>rfl⟩
 refine⟨_,_,_,_,rfl,hw4,fun _=>⟨fun _=>⟨fun _=>⟨fun _=>⟨fun hc=>absurd (by omega) hc,fun _=>?_⟩,fun hc=>absurd rfl hc⟩,fun hc=>absurd rfl hc⟩,fun hc=>absurd rfl hc⟩,fun hc=>absurd rfl hc⟩
 refine⟨fun vs w'=>∃i:Nat,vs=[.int .i64 (i:Int)]∧i≤A.length∧KpL [] w4 w',fun vs _=>match vs with|[.int _ i]=>A.length - i.toNat|_=>0,⟨0,rfl,by omega,KpL.refl _ _⟩,?_⟩
 rintro n17 w25 ⟨i,hv,hi,hk25⟩
 simp only[List.cons.injEq,Value.int.injEq,true_and,and_true]at hv
 subst hv
 constructor
 ·intro hlt
  have gA:i<A.length:=by omega
  have gB:i<B.length:=by omega
  have hsame:B1=B2→A[i].name=B[i].name∧sameA A[i].arr B[i].arr=true:=fun hB=>by
   subst hB
   exact db_eq v1 v2 harr (A1.same A2 fun b=>Iff.rfl) hAr hBr (List.getElem?_eq_getElem gA) (List.getElem?_eq_getElem gB)
  have hk24:=hw2.trans (hw3.trans hw4)
  obtain⟨ad,cs,rfl,hvA,_,_,_,hptA⟩:=((hAR.kp0 hk24).kp0 hk25).sl_get2 gA
  obtain⟨b1,p1,q1,b2,p2,q2,b3,p3,q3,rfl,_,x1,x2,x3⟩:=hvA.nm
  obtain⟨bd,cs',rfl,hvB,_,_,_,hptB⟩:=((hBR.kp0 (hw3.trans hw4)).kp0 hk25).sl_get2 gB
  obtain⟨e1,f1,g1,e2,f2,g2,e3,f3,g3,rfl,_,y1,y2,y3⟩:=hvB.nm
  refine⟨ad,rfl,by omega,hlt,_,hptA 0 [_] rfl,bd,rfl,by omega,by omega,_,hptB 0 [_] rfl,fun _=>⟨ad,rfl,by omega,hlt,_,_,_,_,_,_,_,_,_,hptA 1 [_,_,_] rfl,bd,rfl,by omega,by omega,_,_,_,_,_,_,_,_,_,hptB 1 [_,_,_] rfl,fun w26 hw26=>⟨(same_ok (x1.kp0 hw26) (x2.kp0 hw26) (x3.kp0 hw26) (y1.kp0 hw26) (y2.kp0 hw26) (y3.kp0 hw26)).mono ?_⟩⟩,fun hc w8 hw8=>no ((k4.trans hk25).trans hw8) fun hB=>hc (hsame hB).1⟩
  rintro e w27 ⟨rfl,hw27⟩
  exact⟨_,rfl,hw27,fun(hc:(!sameA A[i].arr B[i].arr)=true)=>no (((k4.trans hk25).trans hw26).trans hw27) fun hB=>(by rw[(hsame hB).2]at hc;cases hc),fun _=>⟨ini_i64.2 (by omega),⟨i+1,rfl,by omega,(hk25.trans hw26).trans hw27⟩,by dsimp only;omega⟩⟩
 ·intro _
  refine⟨(sameStrings_ok ((hT1.kp0 hw4).kp0 hk25) (hT2.kp0 hk25)).mono ?_⟩
  rintro e w9 ⟨rfl,hw9⟩
  refine⟨_,rfl,hw9,_,rfl,(k4.trans hk25).trans hw9,fun hB=>by rw[hB];simp,fun hne=>?_⟩
  rw[decide_eq_false]
  intro hc
  have:=congrArg List.length hc
  simp at this
  exact hne this
end Go.Vc
namespace Go.Vc
open Go Go.Proofs
theorem ev_appendN{P:Program}{st st2 te by_:Nat}(hT:ApT P st st2 te 1 by_)(h1:by_≤1){w:World}{a:Option Addr}{n c:Nat}(hn0:n=0)(hc0:c=0){ys:List Int}{x:Value}{m:Nat}{ly:List Value}{M:List Nat}(hS:Srcs P (tI .u8) M w ys x m ly)(h0:0<m)(hroom:m≤140737488355328){ty:Nat}{Q:Value→World→Prop}
 (h:∀rest w',w'.heap[w.heap.size]?=some (.cells (ys.map (Value.int .u8)++rest).toArray te (0,0))→KpL [] w w'→Q (.slice (some ⟨w.heap.size,0,none⟩) m (m+rest.length)) w'):
 Ev P (Builtin.append_ #[st,st2] ty #[.slice a n c,x]) w Q:=by
 have hm:=hS.num
 have hf:=hS.flat
 obtain⟨d2,hd2,hd3⟩:=hT.el2
 obtain⟨i0,hi0,hby⟩:=hT.el.bytes
 obtain⟨z,hz,hzs⟩:=hT.el.zero
 have hnc:Builtin.nextslicecap (n+m) c=n+m:=by unfold Builtin.nextslicecap;rw[if_pos (by omega)]
 have hbytes:¬Builtin.nextslicecap (n+m) c*i0.bytes>2 ^ 48:=by
  rw[hby,hnc]
  have:(n+m)*by_≤(n+m)*1:=Nat.mul_le_mul_left _ h1
  omega
 have hkd:KpL [] w w.drew:=(KpL.refl _ _).drew
 have hfc0:(Builtin.firstCells 1 n (.slice a n c)).run P w.drew=.ok ([]:List Value).toArray w.drew :=
  run_firstCells (l:=[]) (by simp[hn0]) (fun ad had hne=>absurd hn0 hne) (fun _=>hn0)
 have hfc1:(Builtin.firstCells 1 m x).run P w.drew=.ok ly.toArray w.drew:=hS.first w.drew hkd
 generalize hcut:(Question.appendCap (n+m) c te).cut (w.tape w.drawn (.appendCap (n+m) c te))=newCap
 have hge:n+m≤newCap:=by rw[←hcut];simp only[Question.cut];omega
 have hforced:(Question.appendCap (n+m) c te).forced=false:=rfl
 have hchoose:(choose (Question.appendCap (n+m) c te)).run P w=.ok newCap w.drew:=by
  rw[run_choose,hforced,hcut];rfl
 have hb0:¬(i0.bytes=0):=by rw[hby];exact hT.pos
 have hnf:¬n+m≤c:=by omega
 let rest:=(Builtin.zeroCells z.cells (newCap - (n+m))).toList
 have hrest:rest.length=newCap - (n+m):=by simp[rest,zeroCells_size,hzs]
 let o:Obj:=.cells (([]:List Value)++(ly++rest)).toArray te (0,0)
 have hly:=flat_int hf
 refine⟨.slice (some ⟨w.heap.size,0,none⟩) (n+m) newCap,w.drew.alloc o,?_,?_⟩
 ·rcases hd3 with rfl|⟨dk,rfl⟩<;>simp only[Builtin.append_,List.getElem?_toArray,List.getElem?_cons_zero,List.getElem?_cons_succ,Sem.run_bind,run_underlying hT.el.und,Result.andThen_ok,hT.el.size,run_underlying hd2,Sem.run_pure,
   hS.len,Bool.not_false,if_true,Bool.false_eq_true,if_false,hnf,hi0,hb0,or_self,and_false,hbytes,hchoose,run_askRoom,hfc0,hfc1,hz,newRow,run_newObj]
  all_goals (simp only[o,rest,World.alloc,World.drew];congr 3;simp)
 ·have hself:(w.drew.alloc o).heap[w.heap.size]?=some o:=by
   show(w.heap.push o)[w.heap.size]?=some o
   simp
  have hk:KpL [] w (w.drew.alloc o):=(KpL.refl _ _).drew.alloc o
  have:=h rest _ (by rw[hself,←hly];rfl) hk
  rw[show m+rest.length=newCap by omega]at this
  rw[hn0,Nat.zero_add]
  exact this
theorem cloneN_ok{M0:List Nat}{w:World}{a:Option Addr}{n c:Nat}{xs:List Int}(hR:R (tSl (tI .u8)) M0 w xs [.slice a n c])(ha:a≠none)(h0:0<n)(hn:n≤140737488355328):
 Calls Tryz.prog 95 #[.slice a n c] w fun e w'=>∃b rest,e=.returned (.slice (some ⟨b,0,none⟩) n (n+rest.length))∧w.heap.size≤b∧w'.heap[b]?=some (.cells (xs.map (Value.int .u8)++rest).toArray 5 (0,0))∧KpL [] w w':=by
 refine clone95_vc ⟨fun hc=>absurd hc ha,fun _=>ev_make0 (e:=tI .u8) byT.el (M:=[]) (by simp) fun w1 hC=>⟨_,_,_,rfl,_,hC.kp,?_⟩⟩
 have hk:KpL [] w w1:=hC.kpn
 obtain⟨ly,hS⟩:=hR.srcsP (P:=Tryz.prog) (M':=[]) plain_int hk
 exact ev_appendN byT (Nat.le_refl _) rfl rfl hS h0 (by omega) fun rest w' hb hk'=>⟨_,_,_,rfl,_,hk',_,rest,rfl,hk.size,hb,hk.trans hk'⟩
theorem clonePk_ok{M0 N:List Nat}{w:World}{a:Option Addr}{n c:Nat}{xs:List Int}(hR:R (tSl (tI .u8)) M0 w xs [.slice a n c])(hN:∀b∈N,b<w.heap.size):
 Calls Tryz.prog 95 #[.slice a n c] w fun e w'=>∃a' n' c',e=.returned (.slice a' n' c')∧KpL [] w w'∧R (tSl (tI .u8)) N w' xs [.slice a' n' c']:=by
 have hmx:maxSl=140737488355328:=rfl
 obtain⟨rfl,_,h2⟩:=hR.sl_len
 by_cases hs:xs.length≤1099511627776
 ·refine(clone95_ok hN hs hR).mono ?_
  rintro e w' ⟨a',n',c',rfl,hC⟩
  have:=hC.acc.len
  exact⟨_,_,_,rfl,hC.kpn,hC.acc.done (by omega)⟩
 ·refine(cloneN_ok hR (fun hc=>?_) (by omega) (by omega)).mono ?_
  ·subst hc
   have:=hR.nil_of
   subst this
   simp at hs
  ·rintro e w' ⟨b,rest,rfl,hb,hB,hk⟩
   exact⟨_,_,_,rfl,hk,R.ofBlk hB (fun hm=>by have:=hN b hm;omega) hR.ints (Nat.le_add_right _ _) (by omega)⟩
theorem dCopy_ok{M N G:List Nat}{w:World}{d:Nat}{k:Dk}(h:DkAt M w d k G)(hN:∀b∈N,b<w.heap.size)(hpl:k.pend.length≤1099511627776):
 Calls Tryz.prog 39 #[.pointer (some ⟨d,0,none⟩)] w fun e w'=>∃c F,e=.returned (.pointer (some ⟨c,0,none⟩))∧KpL [] w w'∧DkAt N w' c { k with st:=0 } F∧∀b∈F,w.heap.size≤b:=by
 have h0:=h
 obtain⟨bd,bn,rd,rn,pe,pn,pc,pk,kn,kc,wr,sy,h,rfl⟩:=h
 obtain⟨s,hs1,hs2,hs3,hs4⟩:=h.ok.secs
 have hmx:maxSl=140737488355328:=rfl
 have hpn:=h.pend.len
 refine dCopy_vc h.hd fun _=>⟨(dIs_ok h0).mono ?_⟩
 rintro e w1 ⟨rfl,hw1⟩
 refine⟨_,rfl,hw1,fun hc=>by simp at hc,fun _ k1 hk1 w2 hw2 hb2=>?_⟩
 have h2:=h.kp0 (hw1.trans hw2)
 have k1l:=block_lt hb2.1
 have hRd:R (tSl (tI .u8)) [] w2 k.dur [.slice (some ⟨bd,0,none⟩) k.now.length (k.now.length+rd.length)]:=by
  have:=R.ofBlk (M:=[]) (c:=k.now.length+rd.length) h2.hbd (by simp) h2.ok.dby (by have:=h.ok.len;omega) (by have:=h.ok.len;omega)
  rwa [h.ok.len]at this
 refine⟨(cloneN_ok hRd (by simp) (by omega) (by omega)).mono ?_⟩
 rintro e w3 ⟨b1,r1,rfl,hb1,hB1,hw3⟩
 refine⟨_,_,_,rfl,hw3,fun _=>?_⟩
 have h3:=h2.kp0 hw3
 have hRn:R (tSl (tI .u8)) [] w3 k.now [.slice (some ⟨bn,0,none⟩) k.now.length (k.now.length+rn.length)]:=R.ofBlk h3.hbn (by simp) h3.ok.nby (Nat.le_add_right _ _) (by omega)
 refine⟨(cloneN_ok hRn (by simp) (by omega) (by omega)).mono ?_⟩
 rintro e w4 ⟨b2,r2,rfl,hb2',hB2,hw4⟩
 refine⟨_,_,_,rfl,hw4,fun _=>?_⟩
 have h4:=h3.kp0 hw4
 have l1:=block_lt hB1
 have l2:=block_lt hB2
 have z1:=hw1.size
 have z2:=hw2.size
 have z3:=hw3.size
 have z4:=hw4.size
 have hN4:∀b∈k1::b1::b2::N,b<w4.heap.size:=fun b hb=>by
  simp only[List.mem_cons]at hb
  rcases hb with rfl|rfl|rfl|hb
  ·omega
  ·omega
  ·omega
  ·have:=hN b hb;omega
 refine⟨(clone97_vc (clone_plain plain_pure apW hN4 (h4.pend.done (by omega)) (by omega) fun a' n' c' w' hC=>⟨_,_,_,rfl,hC⟩):Calls Tryz.prog 97 _ w4 (NewR tWr (k1::b1::b2::N) w4 k.pend)).mono ?_⟩
 rintro e w5 ⟨a3,n3,c3,rfl,hC3⟩
 have hw5:KpL [] w4 w5:=hC3.kpn
 have z5:=hw5.size
 refine⟨_,_,_,rfl,hw5,fun _=>?_⟩
 have h5:=h4.kp0 hw5
 have hN5:∀b∈k1::b1::b2::(blkL a3++N),b<w5.heap.size:=fun b hb=>by
  simp only[List.mem_cons,List.mem_append]at hb
  rcases hb with rfl|rfl|rfl|hb|hb
  ·omega
  ·omega
  ·omega
  ·exact(hC3.acc.blk_lt b hb).1
  ·have:=hN b hb;omega
 refine⟨(clonePk_ok h5.picks hN5).mono ?_⟩
 rintro e w6 ⟨a4,n4,c4,rfl,hw6,hC4⟩
 have z6:=hw6.size
 refine⟨_,_,_,rfl,hw6,fun w7 hw7 hb7=>?_⟩
 have z7:=hw7.size
 have hk7:∀x,x<w6.heap.size→x≠k1→w7.heap[x]?=w6.heap[x]?:=fun x hx hne=>hw7.blk x hx (by simp[hne])
 have hall:KpL [] w w6:=(((hw1.trans hw2).trans hw3).trans hw4).trans (hw5.trans hw6)
 have out:∀x,w.heap.size≤x→x∉N:=fun x hx hm=>by have:=hN x hm;omega
 refine⟨k1,_,rfl,hall.more hw7 fun x hx=>.inr ?_,⟨b1,b2,r1,r2,a3,n3,c3,a4,n4,c4,wr,sy,⟨hb7.1,?_,?_,?_,?_,by omega,by omega,by omega,out _ (by omega),out _ (by omega),out _ (by omega),?_⟩,rfl⟩,?_⟩
 ·simp only[List.mem_cons,List.not_mem_nil,or_false,or_self]at hx
  omega
 ·rw[hk7 b1 (by omega) (by omega),(hw4.trans (hw5.trans hw6)).blk b1 l1 (by simp)];exact hB1
 ·rw[hk7 b2 (by omega) (by omega),(hw5.trans hw6).blk b2 l2 (by simp)];exact hB2
 ·exact(hC3.acc.kp0 hw6).kp hw7 (by simp)
 ·exact hC4.kp hw7 (by simp)
 ·exact⟨h.ok.secs,h.ok.len,h.ok.dby,h.ok.nby,h.ok.fin,ini_i64.2 (by dsimp only;omega),h.ok.pend⟩
 ·intro b hb
  simp only[List.mem_cons]at hb
  rcases hb with rfl|rfl|rfl|hb
  ·omega
  ·omega
  ·omega
  ·have:=hC3.own b hb
   simp[blkL]at this
   omega
def SysE(X:Fx)(M:List Nat)(w:World)(s d:Nat)(z:Bool)(m U:Int)(B:List Bt)(G:List Nat):Prop :=
 ∃l num nxt k F Fd st,SysAt M w s l d num nxt st k F Fd∧Lq k num nxt st∧Aft X.arrs X.P0 B st∧st.use=U∧U≤(halfN X.n:Nat)∧k.n=X.n∧num≤m∧k.st≤m∧(z=true→k.fuse = -1)∧G=F++Fd
def DskE(X:Fx)(M:List Nat)(w:World)(d:Nat)(m U:Int)(B:List Bt)(G:List Nat):Prop :=
 ∃k num nxt st,DkAt M w d k G∧Lq k num nxt st∧Aft X.arrs X.P0 B st∧st.use=U∧U≤(halfN X.n:Nat)∧k.n=X.n∧num≤m∧k.st≤m∧k.fuse = -1
section
variable {X:Fx} {M G:List Nat} {w:World} {s d:Nat} {z:Bool} {m U:Int} {B:List Bt}
theorem SysE.q(h:SysE X M w s d z m U B G):SysQ X M w s d false m U B G:=by
 obtain⟨l,num,nxt,k,F,Fd,st,hS,h1,h2,h3,h4,h5,h6,h7,h8,h9⟩:=h
 exact⟨l,num,nxt,k,F,Fd,st,hS,h1,h2,by omega,h4,h5,h6,h7,fun hc=>(by cases hc),h9⟩
theorem SysE.kp0(h:SysE X M w s d z m U B G){w':World}(kp:KpL [] w w'):SysE X M w' s d z m U B G:=by
 obtain⟨l,num,nxt,k,F,Fd,st,hS,r⟩:=h
 exact⟨l,num,nxt,k,F,Fd,st,hS.kp0 kp,r⟩
theorem SysQ.e(h:SysQ X M w s d z m U B G):∃U',SysE X M w s d z m U' B G:=by
 obtain⟨l,num,nxt,k,F,Fd,st,hS,h1,h2,h3,h4,h5,h6,h7,h8,h9⟩:=h
 exact⟨st.use,l,num,nxt,k,F,Fd,st,hS,h1,h2,rfl,by omega,h5,h6,h7,h8,h9⟩
theorem SysE.qz(h:SysE X M w s d z m U B G):SysQ X M w s d z m U B G:=by
 obtain⟨l,num,nxt,k,F,Fd,st,hS,h1,h2,h3,h4,h5,h6,h7,h8,h9⟩:=h
 exact⟨l,num,nxt,k,F,Fd,st,hS,h1,h2,by omega,h4,h5,h6,h7,h8,h9⟩
theorem SysE.fuse(h:SysE X M w s d z m U B G){Mb:List Nat}{i:Int}{ps:List Int}{ba:Option Addr}{bl bc:Nat}(hi:InI .i64 i)(h0:0≤i)(hps:R (tSl (tI .u8)) Mb w ps [.slice ba bl bc])(hpl:ps.length≤256):
 Calls Tryz.prog 40 #[.pointer (some ⟨d,0,none⟩),.int .i64 i,.slice ba bl bc] w fun e w'=>e=.returned (.int .i64 0)∧∃G',Own G w G' w'∧SysE X M w' s d false m U B G':=by
 obtain⟨l,num,nxt,k,F,Fd,st,hS,hL,hA,hu,hh,hn,h1,h2,hz,rfl⟩:=h
 have e0:k.fuseAt i ps=(0,{ k with fuse:=i,picks:=ps }):=by
  unfold Dk.fuseAt
  rw[if_neg (by omega),if_neg (by omega),if_neg (by simp[hL.qt.on])]
 refine(dFuse_ok hS.dk hi hps).mono ?_
 rw[e0]
 rintro e w' ⟨rfl,hT⟩
 obtain⟨Fd',hS',hO⟩:=hS.dkTo hT
 exact⟨rfl,F++Fd',hO,l,num,nxt,_,F,Fd',st,hS',hL.fuse _ _,hA,hu,hh,hn,h1,h2,fun hc=>(by cases hc),rfl⟩
theorem putS_any{st:Sto}(hA:Aft X.arrs X.P0 B st)(b:Bt)(half:Nat):∃B',Aft X.arrs X.P0 B' (st.putS half b).2.2:=by
 by_cases hu:st.use+b.weight≤half
 ·exact⟨_,(putS_ans hA hu).2.2.1⟩
 ·refine⟨B,?_⟩
  unfold Sto.putS
  split
  ·exact hA
  ·split
   ·exact hA
   ·rw[if_pos (by omega)];exact hA
theorem putS_yes{st:Sto}{b:Bt}{half:Nat}(h:(st.putS half b).1=true):st.use+b.weight≤half:=by
 unfold Sto.putS at h
 split at h
 ·cases h
 ·split at h
  ·cases h
  ·split at h
   ·cases h
   ·omega
theorem SysE.put(h:SysE X M w s d z m U B G){Mc:List Nat}{b:Bt}{ca:Option Addr}{cn cc:Nat}(hc:R (tSl tCell) (G++Mc) w b.changes [.slice ca cn cc]):
 Calls Tryz.prog 13 #[.pointer (some ⟨s,0,none⟩),.agg #[.string b.token,.int .i64 b.stamp,.string b.array,.slice ca cn cc]] w fun e w'=>∃G',Own G w G' w'∧
  ((∃ok er B' U',e=.returned (.tuple #[.bool ok,.int .i64 er])∧SysE X M w' s d z m U' B' G')∨
   (z=false∧(ansE X.arrs B b).1=true∧U+b.weight≤(halfN X.n:Nat)∧e=.returned (.tuple #[.bool false,.int .i64 17])∧(DskQ X M w' d false true m (U+b.weight) B G'∨DskQ X M w' d false true m (U+b.weight) (B++[b]) G'))):=by
 have hw:0≤b.weight:=by unfold Bt.weight;omega
 obtain⟨l,num,nxt,k,F,Fd,st,hS,hL,hA,hu,hh,hn,h1,h2,hz,rfl⟩:=h
 have hhalf:k.half=halfN X.n:=by rw[Dk.half_eqN,hn]
 obtain⟨hao,hres⟩:=hL.put b hA
 have hn10:=hL.n10
 refine(sPut_ok hS hc hL.stoB (by omega) (by have:=hL.num0;omega) hao).mono ?_
 rintro e w' ⟨rfl,F',Fd',h',hO⟩
 rcases hres with ⟨p1,p2,p3,p4,p5,p6⟩|⟨q1,q2,q3,q4,q5⟩
 ·obtain⟨B',hA'⟩:=putS_any hA b k.half
  refine⟨F'++Fd',hO,.inl ⟨_,_,B',(st.putS k.half b).2.2.use,rfl,?_⟩⟩
  rw[p3]at h'
  have hi:=p4.hi
  rw[Dk.half_n p5,show(k.half:Int)=(halfN X.n:Nat) by rw[hhalf]]at hi
  exact⟨l,num,_,_,F',Fd',_,h',p4,hA',rfl,hi,p5.trans hn,h1,by rw[p6];exact h2,fun hzt=>(On1.put ⟨hL.qt.on,hz hzt⟩ st num nxt b).2,rfl⟩
 ·have hroom:=putS_yes q1
  have hr2:U+b.weight≤(halfN X.n:Nat):=by rw[hhalf]at hroom;omega
  obtain⟨a1,_,_,_⟩:=putS_ans (X:=X) hA hroom
  refine⟨Fd',⟨hO.kp,fun x hx=>hO.new x (by simp[hx])⟩,.inr ⟨?_,by rw[←a1];exact q1,hr2,by rw[q2,q3],?_⟩⟩
  ·cases z with
   |false=>rfl
   |true =>
    have:=(On1.put ⟨hL.qt.on,hz rfl⟩ st num nxt b).1
    rw[q5.dn]at this
    cases this
  ·have hD:DkAt M w' d (st.put k num nxt b).k Fd':=h'.dk.weak fun x hx=>by simp[hx]
   have hq:=q5.q
   have hX:X=⟨X.arrs,X.P0,k.n⟩:=by rw[hn]
   rcases hq with hq|hq
   ·exact .inl (fell_dsk hX ⟨q5.dn,q5.pe,q5.eq,q5.len,hq,q5.n,q5.st,q5.fz⟩ hD hn10 hL.n1 hL.k0 h2 h1 (by omega) hr2)
   ·exact .inr (fell_dsk hX ⟨q5.dn,q5.pe,q5.eq,q5.len,hq,q5.n,q5.st,q5.fz⟩ hD hn10 hL.n1 hL.k0 h2 h1 (by omega) hr2)
theorem SysE.copy(h:SysE X M w s d true m U B G){N:List Nat}(hN:∀b∈N,b<w.heap.size)(hm:0≤m):
 Calls Tryz.prog 39 #[.pointer (some ⟨d,0,none⟩)] w fun e w'=>∃c F,e=.returned (.pointer (some ⟨c,0,none⟩))∧KpL [] w w'∧DskE X N w' c m U B F∧∀b∈F,w.heap.size≤b:=by
 obtain⟨l,num,nxt,k,F,Fd,st,hS,hL,hA,hu,hh,hn,h1,h2,hz,rfl⟩:=h
 refine(dCopy_ok hS.dk hN (by rw[hL.qt.pe];simp)).mono ?_
 rintro e w' ⟨c,F',rfl,hk,hD,hF⟩
 obtain⟨v,id,k0,n1,lo,hi,nx,bs,ps,bt,hQ,hB,hbt,hLk⟩:=hL
 exact⟨c,F',rfl,hk,⟨_,num,nxt,{ st with id:=0 },hD,⟨v.withId 0,rfl,Int.le_refl _,n1,lo,hi,nx,bs,ps,bt,⟨⟨⟨hQ.r.qt.on,hQ.r.qt.pe,hQ.r.qt.eq,hQ.r.qt.len⟩,hQ.r.n2,hQ.r.num0,hQ.r.num1,hQ.r.rd⟩,hQ.z⟩,hB,hbt,hLk.trans (Like.withId _ _).symm⟩,⟨hA.arr,hA.bat,hA.at_,hA.apt,hA.tok⟩,hu,hh,hn,h1,hm,hz rfl⟩,hF⟩
theorem DskE.opn(h:DskE X M w d m U B G)(hm:m<900000):
 Calls Tryz.prog 15 #[.pointer (some ⟨d,0,none⟩)] w fun e w'=>∃G' s,Own G w G' w'∧e=.returned (.tuple #[.pointer (some ⟨s,0,none⟩),.int .i64 0])∧SysE X M w' s d true (m+1) U B G':=by
 obtain⟨k,num,nxt,st,hD,hL,hA,hu,hh,hn,h1,h2,hz⟩:=h
 have hn10:=hL.n10
 have hn0:=hL.num0
 have hk0:=hL.k0
 have hl:=hL.n1
 have hon:On1 k:=⟨hL.qt.on,hz⟩
 obtain⟨bs,ps,bt,hQ,hB,hbt,hLk⟩:=hL.disk
 obtain⟨o1,o2,o3⟩:=hQ.r.opened
 have hcl:=hon.clear num nxt
 rcases o3 with ⟨_,g2⟩|⟨c1,c2,c3,c4⟩
 ·have:=g2.dn
  rw[hcl.1]at this
  cases this
 have hbl:bt.length≤1000:=by
  have:=commits_bat bt (baseSto st.arrays bs ps)
  have e:=congrArg List.length this
  rw[List.length_append,List.length_map,hLk.bat]at e
  have:=hL.v.bn
  omega
 refine(sOpen_ok (e:=nxt) hD (by omega) hL.qt.on (by rw[hL.qt.pe];simp) (by omega) (by omega) (by rw[o1,c3];exact ini_i64.2 (by omega)) (by rw[o1];exact o2) hB hbt hbl).mono ?_
 intro e w' hres
 rw[o1,if_neg (by simp[c1])]at hres
 obtain⟨s,l,F,Fd',rfl,h',hO⟩:=hres
 have ha:((baseSto st.arrays bs ps).commits bt).arrays=st.arrays:=commits_arr bt _
 have hv:=hL.v.like hLk.symm
 have hAl:=hA.like hL.v.keys hLk
 have hhf:({ (k.clear num nxt).2 with st:=(k.clear num nxt).2.st+1 }:Dk).half=k.half:=Dk.half_n c2
 have eu:=hLk.us
 have elow:((baseSto st.arrays bs ps).commits bt).low=st.low:=by
  have e2:=hLk.pls.length_eq
  unfold Sto.low
  rw[e2,hLk.bat,hLk.arr]
 refine⟨F++Fd',s,hO,rfl,l,num,nxt,_,F,Fd',_,h',⟨hv.withId _,rfl,by dsimp only;rw[c3];omega,by dsimp only;rw[c2];exact hl,?_,?_,?_,bs,ps,bt,?_,?_,?_,?_⟩,⟨hAl.arr,hAl.bat,hAl.at_,hAl.apt,hAl.tok⟩,eu.trans hu,hh,c2.trans hn,by omega,by dsimp only;rw[c3];omega,fun _=>hcl.2,rfl⟩
 ·show((baseSto st.arrays bs ps).commits bt).low≤((baseSto st.arrays bs ps).commits bt).use
  rw[elow,eu];exact hL.lo
 ·rw[hhf]
  show((baseSto st.arrays bs ps).commits bt).use≤_
  rw[eu];exact hL.hi
 ·show(nxt:Int)≤((baseSto st.arrays bs ps).commits bt).use
  rw[eu];exact hL.nx
 ·dsimp only
  rw[ha];exact c4 _
 ·dsimp only
  rw[ha];exact hB
 ·dsimp only
  rw[ha];exact hbt
 ·have e:baseSto ((baseSto st.arrays bs ps).commits bt).arrays bs ps=baseSto st.arrays bs ps:=by rw[ha]
  show Like ((baseSto ((baseSto st.arrays bs ps).commits bt).arrays bs ps).commits bt) _
  rw[e]
  exact(Like.withId _ _).symm
end
end Go.Vc
namespace Go.Vc
open Go Go.Proofs
open Go.Value Go.Ending Go.IntKind
set_option maxRecDepth 100000
theorem gEvery_vc{dba:Option Addr}{dbn dbc:Nat}{tok1:ByteArray}{st1:Int}{arn1:ByteArray}{ca1:Option Addr}{cn1 cc1:Nat}{tok2:ByteArray}{st2:Int}{arn2:ByteArray}{ca2:Option Addr}{cn2 cc2:Nat}{pa:Option Addr}{pn pc:Nat}{w:World}{R:Ending→World→Prop}
 (h :
 Ev Tryz.prog (Instr.box 101 (agg #[string tok1,int i64 st1,string arn1,slice ca1 cn1 cc1,string tok2,int i64 st2,string arn2,slice ca2 cn2 cc2])) w fun y1 w1 =>
 ∃d1,y1=pointer (some d1)∧
 ∃l1,KpL l1 w w1∧
 CallW Tryz.prog 8 #[slice dba dbn dbc] w1 fun e1 w2 =>
 ∃b1,e1=returned (Value.bool b1)∧
 KpL [] w1 w2∧
 ((!b1)=false→
 (0:Int)≤(0:Int)∧
 (0:Int)<(↑(2:Nat):Int)∧
 ∃s1 n1 s2 a1 k1 k2,LdA w2 (d1.add (Int.toNat 0*4)) [string s1,int i64 n1,string s2,slice a1 k1 k2]∧
 (0:Int)≤(1:Int)∧
 (1:Int)<(↑(2:Nat):Int)∧
 ∃s3 n2 s4 a2 k3 k4,LdA w2 (d1.add (Int.toNat 1*4)) [string s3,int i64 n2,string s4,slice a2 k3 k4]∧
 ∀k5,w2.heap.size≤k5→
 ∀w3,KpL [] w2 w3→
 Hb w3 k5 #[string s1,int i64 n1,string s2,slice a1 k1 k2,Value.bool false,Value.bool false,int u16 0,slice none 0 0,int u8 0,string s3,int i64 n2,string s4,slice a2 k3 k4,Value.bool false,Value.bool false,int u16 0,slice none 0 0,int u8 0] 37→
 CallW Tryz.prog 10 #[slice (some (Addr.mk k5 0 none)) 2 2] w3 fun e2 w4 =>
 ∃b2,e2=returned (Value.bool b2)∧
 KpL [] w3 w4∧
 ((!b2)=false→
 ((200:Int)<(↑pn:Int)→
 CallW Tryz.prog 9 #[] w4 fun e3 w5 =>
 ∃b3,e3=returned (Value.bool b3)∧
 KpL [] w4 w5∧
 R (returned (Value.bool b3)) w5)∧
 (¬(200:Int)<(↑pn:Int)→
 CallW Tryz.prog 12 #[int i64 256,slice dba dbn dbc] w4 fun e4 w6 =>
 ∃a3 a4 b4,e4=returned (tuple #[pointer a3,pointer a4,Value.bool b4])∧
 ∃l2,KpL l2 w4 w6∧
 NotIn k5 l2∧
 ((!b4)=true→
 CallW Tryz.prog 9 #[] w6 fun e5 w7 =>
 ∃b5,e5=returned (Value.bool b5)∧
 KpL [] w6 w7∧
 R (returned (Value.bool b5)) w7)∧
 ((!b4)=false→
 (0:Int)≤(0:Int)∧
 (0:Int)<(↑(2:Nat):Int)∧
 ∃s5 n3 s6 a5 k6 k7,LdA w6 (d1.add (Int.toNat 0*4)) [string s5,int i64 n3,string s6,slice a5 k6 k7]∧
 Ev Tryz.prog (Instr.alloc 48 true (tuple #[])) w6 fun y2 w8 =>
 ∃d2,y2=pointer (some d2)∧
 ∃l3,KpL l3 w6 w8∧
 NotIn k5 l3∧
 (∃(l4:List Value),LdA w8 d2 l4∧
 l4.length=4)∧
 NotFrozen w8 d2 4∧
 NotIn k5 [d2.block]∧
 ∀w9,w9=stA w8 d2 [string s5,int i64 n3,string s6,slice a5 k6 k7] 0→
 (∃(l5:List Value),LdA w9 (d2.add 0) l5∧
 l5.length=1)∧
 NotFrozen w9 (d2.add 0) 1∧
 NotIn k5 [(d2.add 0).block]∧
 ∀w10,w10=stA w9 (d2.add 0) [string (ByteArray.mk #[122,122])] 0→
 ∃s7 n4 s8 a6 k8 k9,LdA w10 d2 [string s7,int i64 n4,string s8,slice a6 k8 k9]∧
 CallW Tryz.prog 13 (#[pointer a4,agg #[string s7,int i64 n4,string s8,slice a6 k8 k9]]) w10 fun e6 w11 =>
 ∃b6 n5,e6=returned (tuple #[Value.bool b6,int i64 n5])∧
 ∃l6,KpL l6 w10 w11∧
 NotIn k5 l6∧
 CallW Tryz.prog 30 #[pointer a4] w11 fun e7 w12 =>
 ∃a7 k10 k11 n6,e7=returned (tuple #[slice a7 k10 k11,int i64 n6])∧
 KpL [] w11 w12∧
 (n6≠0→
 R (returned (Value.bool false)) w12)∧
 (¬n6≠0→
 ∃(P1:List Value→World→Prop) (P2:List Value→World→Nat),P1 [int i64 0] w12∧
 ∀n7 w13,P1 [int i64 n7] w13→
 (n7<100→
 CallW Tryz.prog 39 #[pointer a3] w13 fun e8 w14 =>
 ∃a8,e8=returned (pointer a8)∧
 ∃l7,KpL l7 w13 w14∧
 NotIn k5 l7∧
 CallW Tryz.prog 15 #[pointer a8] w14 fun e9 w15 =>
 ∃a9 n8,e9=returned (tuple #[pointer a9,int i64 n8])∧
 ∃l8,KpL l8 w14 w15∧
 NotIn k5 l8∧
 (¬n8≠0→
 CallW Tryz.prog 40 #[pointer a8,int i64 n7,slice pa pn pc] w15 fun e10 w16 =>
 ∃n9,e10=returned (int i64 n9)∧
 ∃l9,KpL l9 w15 w16∧
 NotIn k5 l9∧
 (n9≠0→
 R (returned (Value.bool false)) w16)∧
 (¬n9≠0→
 (0:Int)≤(1:Int)∧
 (1:Int)<(↑(2:Nat):Int)∧
 ∃s9 n10 s10 a10 k12 k13,LdA w16 (d1.add (Int.toNat 1*4)) [string s9,int i64 n10,string s10,slice a10 k12 k13]∧
 CallW Tryz.prog 13 (#[pointer a9,agg #[string s9,int i64 n10,string s10,slice a10 k12 k13]]) w16 fun e11 w17 =>
 ∃b7 n11,e11=returned (tuple #[Value.bool b7,int i64 n11])∧
 ∃l10,KpL l10 w16 w17∧
 NotIn k5 l10∧
 CallW Tryz.prog 38 #[pointer a8] w17 fun e12 w18 =>
 ∃b8,e12=returned (Value.bool b8)∧
 KpL [] w17 w18∧
 ((!b8)=true→
 CallW Tryz.prog 9 #[] w18 fun e13 w19 =>
 ∃b9,e13=returned (Value.bool b9)∧
 KpL [] w18 w19∧
 R (returned (Value.bool b9)) w19)∧
 ((!b8)=false→
 (b7=false→
 (¬n11≠17→
 CallW Tryz.prog 34 #[pointer a8] w18 fun e14 w20 =>
 ∃n12,e14=returned (int i64 n12)∧
 ∃l11,KpL l11 w18 w20∧
 NotIn k5 l11∧
 (n12≠0→
 R (returned (Value.bool false)) w20)∧
 (¬n12≠0→
 CallW Tryz.prog 15 #[pointer a8] w20 fun e15 w21 =>
 ∃a11 n13,e15=returned (tuple #[pointer a11,int i64 n13])∧
 ∃l12,KpL l12 w20 w21∧
 NotIn k5 l12∧
 (n13≠0→
 R (returned (Value.bool false)) w21)∧
 (¬n13≠0→
 CallW Tryz.prog 30 #[pointer a11] w21 fun e16 w22 =>
 ∃a12 k14 k15 n14,e16=returned (tuple #[slice a12 k14 k15,int i64 n14])∧
 KpL [] w21 w22∧
 (¬n14≠0→
 ((↑k14:Int)≠(↑k10:Int)→
 InI i64 ((↑k10:Int)+(1:Int))∧
 ((↑k14:Int)≠(↑k10:Int)+(1:Int)→
 R (returned (Value.bool false)) w22)∧
 (¬(↑k14:Int)≠(↑k10:Int)+(1:Int)→
 CallW Tryz.prog 39 #[pointer a3] w22 fun e17 w23 =>
 ∃a13,e17=returned (pointer a13)∧
 ∃l13,KpL l13 w22 w23∧
 NotIn k5 l13∧
 CallW Tryz.prog 15 #[pointer a13] w23 fun e18 w24 =>
 ∃a14 n15,e18=returned (tuple #[pointer a14,int i64 n15])∧
 ∃l14,KpL l14 w23 w24∧
 NotIn k5 l14∧
 (n15≠0→
 R (returned (Value.bool false)) w24)∧
 (¬n15≠0→
 ((↑k10:Int)<(↑k14:Int)→
 (0:Int)≤(1:Int)∧
 (1:Int)<(↑(2:Nat):Int)∧
 ∃s11 n16 s12 a15 k16 k17,LdA w24 (d1.add (Int.toNat 1*4)) [string s11,int i64 n16,string s12,slice a15 k16 k17]∧
 CallW Tryz.prog 13 (#[pointer a14,agg #[string s11,int i64 n16,string s12,slice a15 k16 k17]]) w24 fun e19 w25 =>
 ∃b10 n17,e19=returned (tuple #[Value.bool b10,int i64 n17])∧
 ∃l15,KpL l15 w24 w25∧
 NotIn k5 l15∧
 CallW Tryz.prog 41 #[pointer a11,pointer a14] w25 fun e20 w26 =>
 ∃b11,e20=returned (Value.bool b11)∧
 KpL [] w25 w26∧
 ((!b11)=true→
 R (returned (Value.bool false)) w26)∧
 ((!b11)=false→
 InI i64 (n7+1)∧
 P1 [int i64 (n7+1)] w26∧
 P2 [int i64 (n7+1)] w26<P2 [int i64 n7] w13))∧
 (¬(↑k10:Int)<(↑k14:Int)→
 CallW Tryz.prog 41 #[pointer a11,pointer a14] w24 fun e21 w27 =>
 ∃b12,e21=returned (Value.bool b12)∧
 KpL [] w24 w27∧
 ((!b12)=true→
 R (returned (Value.bool false)) w27)∧
 ((!b12)=false→
 InI i64 (n7+1)∧
 P1 [int i64 (n7+1)] w27∧
 P2 [int i64 (n7+1)] w27<P2 [int i64 n7] w13)))))∧
 (¬(↑k14:Int)≠(↑k10:Int)→
 CallW Tryz.prog 39 #[pointer a3] w22 fun e22 w28 =>
 ∃a16,e22=returned (pointer a16)∧
 ∃l16,KpL l16 w22 w28∧
 NotIn k5 l16∧
 CallW Tryz.prog 15 #[pointer a16] w28 fun e23 w29 =>
 ∃a17 n18,e23=returned (tuple #[pointer a17,int i64 n18])∧
 ∃l17,KpL l17 w28 w29∧
 NotIn k5 l17∧
 (n18≠0→
 R (returned (Value.bool false)) w29)∧
 (¬n18≠0→
 ((↑k10:Int)<(↑k14:Int)→
 (0:Int)≤(1:Int)∧
 (1:Int)<(↑(2:Nat):Int)∧
 ∃s13 n19 s14 a18 k18 k19,LdA w29 (d1.add (Int.toNat 1*4)) [string s13,int i64 n19,string s14,slice a18 k18 k19]∧
 CallW Tryz.prog 13 (#[pointer a17,agg #[string s13,int i64 n19,string s14,slice a18 k18 k19]]) w29 fun e24 w30 =>
 ∃b13 n20,e24=returned (tuple #[Value.bool b13,int i64 n20])∧
 ∃l18,KpL l18 w29 w30∧
 NotIn k5 l18∧
 CallW Tryz.prog 41 #[pointer a11,pointer a17] w30 fun e25 w31 =>
 ∃b14,e25=returned (Value.bool b14)∧
 KpL [] w30 w31∧
 ((!b14)=true→
 R (returned (Value.bool false)) w31)∧
 ((!b14)=false→
 InI i64 (n7+1)∧
 P1 [int i64 (n7+1)] w31∧
 P2 [int i64 (n7+1)] w31<P2 [int i64 n7] w13))∧
 (¬(↑k10:Int)<(↑k14:Int)→
 CallW Tryz.prog 41 #[pointer a11,pointer a17] w29 fun e26 w32 =>
 ∃b15,e26=returned (Value.bool b15)∧
 KpL [] w29 w32∧
 ((!b15)=true→
 R (returned (Value.bool false)) w32)∧
 ((!b15)=false→
 InI i64 (n7+1)∧
 P1 [int i64 (n7+1)] w32∧
 P2 [int i64 (n7+1)] w32<P2 [int i64 n7] w13)))))∧
 (n14≠0→
 R (returned (Value.bool false)) w22))))∧
 (n11≠17→
 R (returned (Value.bool false)) w18))∧
 (b7=true→
 R (returned (Value.bool false)) w18))))∧
 (n8≠0→
 R (returned (Value.bool false)) w15))∧
 (¬n7<100→
 CallW Tryz.prog 9 #[] w13 fun e27 w33 =>
 ∃b16,e27=returned (Value.bool b16)∧
 KpL [] w13 w33∧
 R (returned (Value.bool b16)) w33)))))∧
 ((!b2)=true→
 CallW Tryz.prog 9 #[] w4 fun e28 w34 =>
 ∃b17,e28=returned (Value.bool b17)∧
 KpL [] w4 w34∧
 R (returned (Value.bool b17)) w34))∧
 ((!b1)=true→
 CallW Tryz.prog 9 #[] w2 fun e29 w35 =>
 ∃b18,e29=returned (Value.bool b18)∧
 KpL [] w2 w35∧
 R (returned (Value.bool b18)) w35)):Calls Tryz.prog 6 #[slice dba dbn dbc,agg #[string tok1,int i64 st1,string arn1,slice ca1 cn1 cc1,string tok2,int i64 st2,string arn2,slice ca2 cn2 cc2],slice pa pn pc] w R :=
 fnc0 (an:={ loops:=[⟨13,[13],[6,14,15,16,17,18,19,20,63,64,65,66,67,68,69,70,71,72,73,74,75,76,77,78,79,80,81,82,83,84,85,86,87,88,89,90,91,92,93,94,95,96,97,98,99,100,101,102,103,104,105,106,107,108,109,110,111,112,113,114,115,116,117,118,119,120,121,122,123,124,125,126,127,128,129,130,131,132,133,134,135,136,137,138,139,140,141,142,143,144,145,146,147,148,149,150,151,152,153],[]⟩],muts:=[12,13,39,15,40,34],lim:=3 }) (args:=[.a (.c (.v (.slice dba dbn dbc))),.a (.agg [.v (.string tok1),.v (.int .i64 st1),.v (.string arn1),.v (.slice ca1 cn1 cc1),.v (.string tok2),.v (.int .i64 st2),.v (.string arn2),.v (.slice ca2 cn2 cc2)]),.a (.c (.v (.slice pa pn pc)))]) Tryz_ok Tryz.func6 (by kernel_rfl) rfl rfl h
end Go.Vc
namespace Go.Vc
open Go Go.Proofs
theorem Own.ext{w0 w' w'':World}{G G':List Nat}(hk:KpL [] w0 w')(hO:Own G w' G' w'')(hG:∀b∈G,w0.heap.size≤b):KpL [] w0 w''∧∀b∈G',w0.heap.size≤b :=
 ⟨hk.more hO.kp fun b hb=>.inr (hG b hb),fun b hb=>(hO.new b hb).elim (hG b) fun h=>Nat.le_trans hk.size h⟩
theorem two_RE{α:Type}{t:Ty α}{w:World}{k T:Nat}{cs cs2:List Value}{x y:α}{M:List Nat}(hx:R t M w x cs)(hy:R t M w y cs2)(hkM:k∉M)(hk:w.heap[k]?=some (.cells (cs++cs2).toArray T (0,0))):R (tSl t) M w [x,y] [.slice (some ⟨k,0,none⟩) 2 2]:=by
 have l1:=hx.len
 refine⟨_,_,rfl,Nat.le_refl _,by show(2:Nat)≤140737488355328;omega,fun _=>⟨k,0,_,T,_,rfl,⟨block_lt hk,hkM⟩,hk,fun j y' hy'=>?_⟩⟩
 match j,hy' with
 |0,hy' =>
  simp at hy'
  subst hy'
  refine⟨cs,hx,fun t' v hv=>?_⟩
  simp only[Nat.zero_add,Nat.zero_mul,List.toList_toArray]
  rw[List.getElem?_append_left (List.getElem?_eq_some_iff.1 hv).1]
  exact hv
 |1,hy' =>
  simp at hy'
  subst hy'
  refine⟨cs2,hy,fun t' v hv=>?_⟩
  simp only[Nat.zero_add,Nat.one_mul,List.toList_toArray]
  rw[←l1,List.getElem?_append_right (by omega),Nat.add_sub_cancel_left]
  exact hv
 |j+2,hy'=>simp at hy'
theorem R.mkStpE{M:List Nat}{w:World}{b:Bt}{a:Option Addr}{n c:Nat}(hb:R tBt M w b [.string b.token,.int .i64 b.stamp,.string b.array,.slice a n c]):
 R tStp M w ⟨b,false,false,⟨0,[],0⟩⟩ [.string b.token,.int .i64 b.stamp,.string b.array,.slice a n c,.bool false,.bool false,.int .u16 0,.slice none 0 0,.int .u8 0] :=
 ⟨[_,_,_,_],[_,_,_,_,_],rfl,hb,[_],[_,_,_,_],rfl,rfl,[_],[_,_,_],rfl,rfl,[_],[_,_],rfl,⟨rfl,ini_u16.2 (by dsimp only;omega)⟩,[_],[_],rfl,⟨none,0,rfl,Nat.le_refl _,by simp,fun hc=>absurd rfl hc⟩,rfl,ini_u8.2 (by dsimp only;omega)⟩
set_option maxHeartbeats 8000000 in
theorem gEvery_ok{w:World}{db:List Nm}{b1 b2:Bt}{ps:List Int}{dba:Option Addr}{dbn dbc:Nat}{ca1:Option Addr}{cn1 cc1:Nat}{ca2:Option Addr}{cn2 cc2:Nat}{pa:Option Addr}{pn pc:Nat}(hdb:R (tSl tNm) [] w db [.slice dba dbn dbc])
 (hb1:R tBt [] w b1 [.string b1.token,.int .i64 b1.stamp,.string b1.array,.slice ca1 cn1 cc1])(hb2:R tBt [] w b2 [.string b2.token,.int .i64 b2.stamp,.string b2.array,.slice ca2 cn2 cc2])(hps:R (tSl (tI .u8)) [] w ps [.slice pa pn pc]):
 Calls Tryz.prog 6 #[.slice dba dbn dbc,.agg #[.string b1.token,.int .i64 b1.stamp,.string b1.array,.slice ca1 cn1 cc1,.string b2.token,.int .i64 b2.stamp,.string b2.array,.slice ca2 cn2 cc2],.slice pa pn pc] w (PureR (.bool true) w):=by
 obtain⟨rfl,_,_⟩:=hdb.sl_len
 obtain⟨rfl,_,_⟩:=hps.sl_len
 have hmx:maxSl=140737488355328:=rfl
 obtain⟨xa,xn,xc,hx,_,_,_,hc1⟩:=hb1.bt
 simp only[List.cons.injEq,Value.slice.injEq,true_and,and_true]at hx
 obtain⟨rfl,rfl,rfl⟩:=hx
 obtain⟨xa,xn,xc,hx,_,_,_,hc2⟩:=hb2.bt
 simp only[List.cons.injEq,Value.slice.injEq,true_and,and_true]at hx
 obtain⟨rfl,rfl,rfl⟩:=hx
 have works:∀{wa wb:World},KpL [] w wa→KpL [] wa wb→PureR (.bool true) w (.returned (.bool true)) wb:=fun h1 h2=>⟨rfl,h1.trans h2⟩
 refine gEvery_vc (ev_box fun w1 hk1 hw1=>⟨_,rfl,[],hw1,⟨(lfew_ok (hdb.kp0 hw1)).mono ?_⟩⟩)
 rintro e w2 ⟨f1,rfl,hw2,hfew⟩
 have k2:=hw1.trans hw2
 refine⟨_,rfl,hw2,fun hb=>?_,fun _=>⟨(lworks_ok w2).mono ?_⟩⟩
 rotate_left
 ·rintro e w3 ⟨rfl,hw3⟩
  exact⟨_,rfl,hw3,works k2 hw3⟩
 obtain⟨hf1,hf2⟩:=hfew (nb_f hb)
 have ld0:∀{w':World},KpL [] w1 w'→LdA w' ((⟨w.heap.size,0,none⟩:Addr).add (Int.toNat 0*4)) [.string b1.token,.int .i64 b1.stamp,.string b1.array,.slice ca1 cn1 cc1]:=fun hk=>by
  show LdA _ ⟨w.heap.size,0,none⟩ _
  exact(ldA_blk hk1 0 _ rfl).kp hk
 have ld1:∀{w':World},KpL [] w1 w'→LdA w' ((⟨w.heap.size,0,none⟩:Addr).add (Int.toNat 1*4)) [.string b2.token,.int .i64 b2.stamp,.string b2.array,.slice ca2 cn2 cc2]:=fun hk=>by
  show LdA _ ⟨w.heap.size,4,none⟩ _
  exact(ldA_blk hk1 4 _ rfl).kp hk
 refine⟨by omega,by omega,_,_,_,_,_,_,ld0 hw2,by omega,by omega,_,_,_,_,_,_,ld1 hw2,fun k5 hk5 w3 hw3 hkn5=>⟨(lfits_ok (two_RE (R.mkStpE (hb1.kp0 (k2.trans hw3))) (R.mkStpE (hb2.kp0 (k2.trans hw3))) (by simp) hkn5)).mono ?_⟩⟩
 have k3:=k2.trans hw3
 rintro e w4 ⟨f2,rfl,hw4,hfit⟩
 have k4:=k3.trans hw4
 have k14:KpL [] w1 w4:=(hw2.trans hw3).trans hw4
 refine⟨_,rfl,hw4,fun hf=>?_,fun _=>⟨(lworks_ok w4).mono ?_⟩⟩
 rotate_left
 ·rintro e w5 ⟨rfl,hw5⟩
  exact⟨_,rfl,hw5,works k4 hw5⟩
 have hpl:(fmtPl 0 db).length≤32:=by have:=fmtPl_len (m:=8) (l:=db) (i:=0) hf2;omega
 have hk5l:=block_lt hkn5
 have z4:=hw4.size
 have ni:∀{L:List Nat},(∀b∈L,w4.heap.size≤b)→NotIn k5 L:=fun hL=>⟨fun hm=>by have:=hL k5 hm;omega⟩
 refine⟨fun _=>⟨(lworks_ok w4).mono ?_⟩,fun h200=>⟨(lformattedQ (M:=[]) (by simp) (n:=256) (by omega) (by omega) (hdb.kp0 k4) (by omega)).mono ?_⟩⟩
 ·rintro e w5 ⟨rfl,hw5⟩
  exact⟨_,rfl,hw5,works k4 hw5⟩
 rintro e w6 ⟨hw6,hh⟩
 have k6:=k4.trans hw6
 have k16:=k14.trans hw6
 by_cases hok:okDb 256 db
 rotate_left
 ·rw[if_neg hok]at hh
  obtain⟨a1,a2,rfl⟩:=hh
  refine⟨_,_,_,rfl,[],hw6,⟨by simp⟩,fun _=>⟨(lworks_ok w6).mono ?_⟩,fun hc=>(by cases hc)⟩
  rintro e w7 ⟨rfl,hw7⟩
  exact⟨_,rfl,hw7,works k6 hw7⟩
 rw[if_pos hok]at hh
 obtain⟨d,s,G,rfl,hS,hG⟩:=hh
 obtain⟨U0,hS⟩:=hS.e
 refine⟨_,_,_,rfl,[],hw6,⟨by simp⟩,fun hc=>(by cases hc),fun _=>⟨by omega,by omega,_,_,_,_,_,_,ld0 k16,ev_alloc (z:=[.string ByteArray.empty,.int .i64 0,.string ByteArray.empty,.slice none 0 0]) ⟨_,fun w=>zero_of (z:=.agg #[.string ByteArray.empty,.int .i64 0,.string ByteArray.empty,.slice none 0 0]) (by kernel_rfl) w,rfl⟩ fun w8 hb8 hw8=>?_⟩⟩
 have z6:=hw6.size
 have nb:NotIn k5 [w6.heap.size]:=ni fun b hb=>by simp at hb;omega
 refine⟨_,rfl,[],hw8,⟨by simp⟩,⟨[_,_,_,_],ldA_blk hb8 0 _ rfl,rfl⟩,notFrozen hb8,nb,fun w9 hw9=>?_⟩
 subst hw9
 have hb9:=stA_block (off:=0) [.string b1.token,.int .i64 b1.stamp,.string b1.array,.slice ca1 cn1 cc1] 0 w8 _ hb8 (by simp)
 have kp9:=stA_kp w8 ⟨w6.heap.size,0,none⟩ [.string b1.token,.int .i64 b1.stamp,.string b1.array,.slice ca1 cn1 cc1]
 refine⟨⟨[_],ldA_blk hb9 0 [_] rfl,rfl⟩,notFrozen hb9,nb,fun w10 hw10=>?_⟩
 have hb10:=stA_block (off:=0) [.string ⟨#[122,122]⟩] 0 _ _ hb9 (by simp[setL])
 have kp10:=stA_kp (stA w8 ⟨w6.heap.size,0,none⟩ [.string b1.token,.int .i64 b1.stamp,.string b1.array,.slice ca1 cn1 cc1] 0) ⟨w6.heap.size,0,none⟩ [.string ⟨#[122,122]⟩]
 have hw10':w10=stA (stA w8 ⟨w6.heap.size,0,none⟩ [.string b1.token,.int .i64 b1.stamp,.string b1.array,.slice ca1 cn1 cc1] 0) ⟨w6.heap.size,0,none⟩ [.string ⟨#[122,122]⟩] 0:=hw10
 rw[←hw10']at hb10 kp10
 clear hw10 hw10'
 have k610:KpL [] w6 w10:=(hw8.more kp9 fun x hx=>.inr (by simp at hx;omega)).more kp10 fun x hx=>.inr (by simp at hx;omega)
 have k410:=hw6.trans k610
 have hS10:=hS.kp0 k610
 refine⟨_,_,_,_,_,_,ldA_blk hb10 0 [_,_,_,_] rfl,⟨(hS10.put (b:={ b1 with token:=⟨#[122,122]⟩ }) (Mc:=[]) ((hc1.kp0 k4).fresh k410 hG)).mono ?_⟩⟩
 rintro e w11 ⟨G2,hO2,hres⟩
 rcases hres with ⟨ok,er,B,U,rfl,hE⟩|⟨hz,_⟩
 rotate_left
 ·cases hz
 obtain⟨k411,hG2⟩:=Own.ext k410 hO2 hG
 obtain⟨_,_,_,c11⟩:=hE.qz.st
 refine⟨_,_,rfl,G,hO2.kp,ni hG,⟨(c11 w11 (KpL.refl _ _)).2.mono ?_⟩⟩
 rintro e w12 ⟨ta,tn,tc,rfl,hw12,hT⟩
 obtain⟨rfl,htn,_⟩:=hT.sl_len
 rw[List.length_map]at htn
 have hE12:=hE.kp0 hw12
 have k412:=k411.trans hw12
 refine⟨_,_,_,_,rfl,hw12,fun hc=>absurd rfl hc,fun _=>?_⟩
 refine⟨fun vs w'=>∃n:Nat,vs=[.int .i64 (n:Int)]∧n≤100∧KpL [] w12 w',fun vs _=>match vs with|[.int _ n]=>100 - n.toNat|_=>0,⟨0,rfl,by omega,KpL.refl _ _⟩,?_⟩
 rintro n7 w13 ⟨n,hv,hn,hw13⟩
 simp only[List.cons.injEq,Value.int.injEq,true_and,and_true]at hv
 subst hv
 have k413:=k412.trans hw13
 have k13:=k4.trans k413
 have k113:=k14.trans k413
 constructor
 rotate_left
 ·intro _
  refine⟨(lworks_ok w13).mono ?_⟩
  rintro e w33 ⟨rfl,hw33⟩
  exact⟨_,rfl,hw33,works k13 hw33⟩
 intro hlt
 have z13:=k413.size
 have nf:∀{L:List Nat},(∀b∈L,w13.heap.size≤b)→NotIn k5 L:=fun hL=>ni fun b hb=>Nat.le_trans z13 (hL b hb)
 have hE13:=hE12.kp0 hw13
 refine⟨(hE13.copy (N:=[]) (by simp) (by omega)).mono ?_⟩
 rintro e w14 ⟨c,Fc,rfl,hw14,hC,hFc⟩
 refine⟨_,rfl,[],hw14,⟨by simp⟩,⟨(hC.opn (by omega)).mono ?_⟩⟩
 rintro e w15 ⟨Gu,u,hOu,rfl,hu⟩
 obtain⟨kd15,fGu⟩:=Own.ext hw14 hOu hFc
 refine⟨_,_,rfl,Fc,hOu.kp,nf hFc,fun _=>⟨(hu.fuse (Mb:=[]) (ini_i64.2 (by omega)) (by omega) (hps.kp0 (k13.trans kd15)) (by omega)).mono ?_⟩,fun hc=>absurd rfl hc⟩
 rintro e w16 ⟨rfl,Gv,hOv,hv⟩
 obtain⟨kd16,fGv⟩:=Own.ext kd15 hOv fGu
 refine⟨_,rfl,Gu,hOv.kp,nf fGu,fun hc=>absurd rfl hc,fun _=>⟨by omega,by omega,_,_,_,_,_,_,ld1 (k113.trans kd16),⟨(hv.put (b:=b2) (Mc:=[]) ((hc2.kp0 k13).fresh kd16 fGv)).mono ?_⟩⟩⟩
 rintro e w17 ⟨G7,hO7,hres⟩
 obtain⟨kd17,fG7⟩:=Own.ext kd16 hO7 fGv
 rcases hres with ⟨ok,er,B',U',rfl,h7⟩|⟨_,hans,hroom,rfl,h7⟩
 ·refine⟨_,_,rfl,Gv,hO7.kp,nf fGv,⟨(h7.qz.down).mono ?_⟩⟩
  rintro e w18 ⟨rfl,hw18⟩
  refine⟨_,rfl,hw18,fun _=>⟨(lworks_ok w18).mono ?_⟩,fun hc=>(by cases hc)⟩
  rintro e w19 ⟨rfl,hw19⟩
  exact⟨_,rfl,hw19,works ((k13.trans kd17).trans hw18) hw19⟩
 obtain⟨B2,hB2,hd7⟩:∃B2,(B2=B∨B2=B++[b2])∧DskQ (fxOf 256 db) [] w17 c false true (1+1) (U+b2.weight) B2 G7:=by
  rcases h7 with h7|h7
  ·exact⟨_,.inl rfl,h7⟩
  ·exact⟨_,.inr rfl,h7⟩
 refine⟨_,_,rfl,Gv,hO7.kp,nf fGv,⟨(hd7.down).mono ?_⟩⟩
 rintro e w18 ⟨rfl,hw18⟩
 have kd18:=kd17.trans hw18
 refine⟨_,rfl,hw18,fun hc=>(by cases hc),fun _=>⟨fun _=>⟨fun _=>⟨((hd7.kp0 hw18).restart).mono ?_⟩,fun hc=>absurd rfl hc⟩,fun hc=>(by cases hc)⟩⟩
 rintro e w20 ⟨rfl,G8,hO8,h8⟩
 obtain⟨kd20,fG8⟩:=Own.ext kd18 hO8 fG7
 refine⟨_,rfl,G7,hO8.kp,nf fG7,fun hc=>absurd rfl hc,fun _=>⟨(h8.opn (by omega)).mono ?_⟩⟩
 rintro e w21 ⟨G9,hO9,hres9⟩
 rcases hres9 with ⟨u2,rfl,h9⟩|⟨hz,_⟩
 rotate_left
 ·cases hz
 obtain⟨kd21,fG9⟩:=Own.ext kd20 hO9 fG8
 obtain⟨_,_,_,c9⟩:=h9.st
 refine⟨_,_,rfl,G8,hO9.kp,nf fG8,fun hc=>absurd rfl hc,fun _=>⟨(c9 w21 (KpL.refl _ _)).2.mono ?_⟩⟩
 rintro e w22 ⟨ua,un,uc,rfl,hw22,hT2⟩
 obtain⟨rfl,hun,_⟩:=hT2.sl_len
 rw[List.length_map]at hun
 have kd22:=kd21.trans hw22
 have h22:=h9.kp0 hw22
 have hE22:=hE13.kp0 kd22
 have hlen:B2.length=B.length∨B2.length=B.length+1:=by
  rcases hB2 with rfl|rfl
  ·exact .inl rfl
  ·right;simp
 have z22:=kd22.size
 refine⟨_,_,_,_,rfl,hw22,fun _=>⟨fun hne=>⟨ini_i64.2 (by omega),fun hc=>absurd hc (by simp only[List.length_map]at hne ⊢;omega),fun _=>?_⟩,fun heq=>?_⟩,fun hc=>absurd rfl hc⟩
 all_goals
  refine⟨(hE22.copy (N:=[]) (by simp) (by omega)).mono ?_⟩
  rintro e w23 ⟨c2,Fx,rfl,hw23,hC2,hFx⟩
  refine⟨_,rfl,[],hw23,⟨by simp⟩,⟨(hC2.opn (by omega)).mono ?_⟩⟩
  rintro e w24 ⟨Gx,x,hOx,rfl,hx⟩
  obtain⟨kd24,fGx⟩:=Own.ext hw23 hOx hFx
  have nx:∀{L:List Nat},(∀b∈L,w22.heap.size≤b)→NotIn k5 L:=fun hL=>nf fun b hb=>Nat.le_trans z22 (hL b hb)
  refine⟨_,_,rfl,Fx,hOx.kp,nx hFx,fun hc=>absurd rfl hc,fun _=>⟨fun hl2=>?_,fun hg2=>?_⟩⟩
  ·have hB:B2=B++[b2]:=hB2.resolve_left fun hc=>by simp only[hc,List.length_map]at hl2;omega
   refine⟨by omega,by omega,_,_,_,_,_,_,ld1 ((k113.trans kd22).trans kd24),⟨(hx.qz.put (b:=b2) (Mc:=[]) ((hc2.kp0 (k13.trans kd22)).fresh kd24 fGx) hroom).mono ?_⟩⟩
   rintro e w25 ⟨Gy,hOy,hresy⟩
   rcases hresy with ⟨rfl,hy⟩|⟨hz,_⟩
   ·obtain⟨kd25,fGy⟩:=Own.ext kd24 hOy fGx
    refine⟨_,_,rfl,Gx,hOy.kp,nx fGx,⟨(lequal_ok (h22.kp0 kd25) hy).mono ?_⟩⟩
    rintro e w26 ⟨bb,rfl,hw26,he,_⟩
    have hbb:bb=true:=he (by rw[hB];unfold Taken;rw[if_pos hans])
    subst hbb
    exact⟨_,rfl,hw26,fun hc=>(by cases hc),fun _=>⟨ini_i64.2 (by omega),⟨n+1,rfl,by omega,((hw13.trans kd22).trans kd25).trans hw26⟩,by dsimp only;omega⟩⟩
   ·cases hz
  ·have hB:B2=B:=hB2.resolve_right fun hc=>by simp only[hc,List.length_map,List.length_append,List.length_cons,List.length_nil]at hg2;omega
   refine⟨(lequal_ok (h22.kp0 kd24) hx.qz).mono ?_⟩
   rintro e w26 ⟨bb,rfl,hw26,he,_⟩
   have hbb:bb=true:=he hB
   subst hbb
   exact⟨_,rfl,hw26,fun hc=>(by cases hc),fun _=>⟨ini_i64.2 (by omega),⟨n+1,rfl,by omega,((hw13.trans kd22).trans kd24).trans hw26⟩,by dsimp only;omega⟩⟩
end Go.Vc
namespace Go.Vc
open Go Go.Proofs
def Opn{α:Type}(t:TypeId)(e:Ty α):Prop:=Tryz.prog.cellsOf t=e.sz∧∀{H:Type} {enc:TypeId×Value→H} {w:World} {n:Nat} {cs:List Value} {x:DataW H×List MemPlace},
 DataW.trod enc Tryz.prog w 0 (fun _=>true) true n t cs=some x→(∀m∈x.1.weights Tryz.prog t,m≤reachBytes)→∃a:α,e.rel (fun b=>b<w.heap.size) w a cs
theorem Opn.R{α:Type}{t:TypeId}{e:Ty α}(h:Opn t e){H:Type}{enc:TypeId×Value→H}{w:World}{v:Value}{d:DataW H}{ps:List MemPlace}(hx:DataW.Trod enc Tryz.prog w 0 (fun _=>true) true t v d ps)(hw:∀m∈d.weights Tryz.prog t,m≤reachBytes):∃a:α,R e [] w a v.cells.toList:=by
 obtain⟨n,hn⟩:=hx
 obtain⟨a,ha⟩:=h.2 hn hw
 exact⟨a,e.mono ha fun b hb=>⟨⟨hb,by simp⟩,rfl⟩⟩
theorem opn_int{t:TypeId}{k:IntKind}(ht:Tryz.prog.underlying t=some (.int k))(hc:Tryz.prog.cellsOf t=1):Opn t (tI k):=by
 refine⟨hc,fun hx _=>?_⟩
 obtain⟨n,rfl,_,hw⟩:=DataW.trod_int ht hx
 simp only[Lit.wf,Bool.and_eq_true,decide_eq_true_eq]at hw
 exact⟨n,rfl,⟨hw.1,hw.2⟩⟩
def tS':Ty ByteArray where
 sz:=1
 rel:=fun _ _ x cs=>cs=[.string x]∧x.size≤maxSl
 len:=by rintro _ _ _ _ ⟨rfl,_⟩;rfl
 one:=by rintro _ _ _ _ ⟨rfl,_⟩ v hv;simp at hv;subst hv;rfl
 mono:=fun h _=>h
theorem opn_string{t:TypeId}(ht:Tryz.prog.underlying t=some .string)(hc:Tryz.prog.cellsOf t=1):Opn t tS':=by
 refine⟨hc,fun hx hw=>?_⟩
 obtain⟨s,rfl,rfl,hs⟩:=DataW.trod_string ht hx
 refine⟨s,rfl,?_⟩
 have:=hw s.data.toList.length (by simp[DataW.weights])
 have e:s.data.toList.length=s.size:=rfl
 unfold reachBytes at this
 have:maxSl=140737488355328:=rfl
 omega
theorem list_choose{α:Type}{p:Nat→α→Prop}:∀{n:Nat},(∀i,i<n→∃y,p i y)→∃xs:List α,xs.length=n∧∀i y,xs[i]?=some y→p i y
 |0,_=>⟨[],rfl,by simp⟩
 |n+1,h=>by
  obtain⟨xs,h1,h2⟩:=list_choose (n:=n) fun i hi=>h i (by omega)
  obtain⟨y,hy⟩:=h n (by omega)
  refine⟨xs++[y],by simp[h1],fun i z hz=>?_⟩
  by_cases hi:i<n
  ·rw[List.getElem?_append_left (by omega)]at hz
   exact h2 i z hz
  ·rw[List.getElem?_append_right (by omega)]at hz
   have hi':i=n:=by
    have:=(List.getElem?_eq_some_iff.1 hz).1
    simp at this
    omega
   subst hi'
   rw[h1,Nat.sub_self]at hz
   simp at hz
   subst hz
   exact hy
theorem cell_blk{w:World}{a:Addr}{v:Value}(h:w.cell? a=some v):∃c T fz,a.spot=none∧w.heap[a.block]?=some (.cells c T fz)∧c[a.off]?=some v:=by
 unfold World.cell? at h
 split at h
 ·rename_i c T fz hc
  split at h
  ·cases h
  ·rename_i hs
   exact⟨c,T,fz,by simpa using hs,hc,h⟩
 ·cases h
theorem weightsAll_mem{H:Type}{e:TypeId}:∀{l:List (DataW H)} {d:DataW H},d∈l→∀m∈d.weights Tryz.prog e,m∈DataW.weightsAll Tryz.prog e l
 |a::r,d,hd,m,hm=>by
  rw[DataW.weightsAll,List.mem_append]
  rcases List.mem_cons.1 hd with rfl|hd
  ·exact .inl hm
  ·exact .inr (weightsAll_mem hd m hm)
theorem opn_slice{α:Type}{t e:TypeId}{te:Ty α}(ht:Tryz.prog.underlying t=some (.slice e))(hc:Tryz.prog.cellsOf t=1)(h:Opn e te)(h1:1≤te.sz)(hby:1≤Tryz.prog.bytesOf e):Opn t (tSl te):=by
 refine⟨hc,fun {H enc w n cs x} hx hw=>?_⟩
 rcases Deep.open_slice ht hx with ⟨rfl,_⟩|⟨a,len,cap,m,n',D,Pl,rfl,hb,hl,hm,hmm,rfl,hall⟩
 ·exact⟨[],none,0,rfl,Nat.le_refl _,by simp,fun hc=>absurd rfl hc⟩
 ·have hmc:m=cap:=by simpa using hmm
  obtain⟨xs,hlen,hxs⟩:=list_choose (n:=len) (p:=fun i (y:α)=>∃cs',w.cells? 0 (a.add (i*Tryz.prog.cellsOf e)) (Tryz.prog.cellsOf e)=some cs'∧te.rel (fun b=>b<w.heap.size) w y cs') fun i hi=>by
   obtain⟨cs',g1,g2⟩:=hall i (by omega)
   obtain⟨y,hy⟩:=h.2 g2 fun m' hm'=>hw m' (by
    simp only[DataW.weights,ht,List.mem_cons,List.mem_append]
    exact .inr (.inl (weightsAll_mem (List.mem_map.2 ⟨i,by simpa using hi,rfl⟩) m' hm')))
   exact⟨y,cs',g1,hy⟩
  subst hlen
  refine⟨xs,some a,cap,rfl,hl,?_,fun hne=>?_⟩
  ·have:=hw _ (by simp only[DataW.weights,ht];exact List.mem_cons_self ..)
   simp only[List.length_map,List.length_range]at this
   have h3:xs.length*1≤(xs.length+(m - xs.length))*Tryz.prog.bytesOf e:=Nat.mul_le_mul (by omega) hby
   unfold reachBytes at this
   have:maxSl=140737488355328:=rfl
   omega
  ·have h0:0<xs.length:=by
    cases xs with
    |nil=>exact absurd rfl hne
    |cons _ _=>simp
   obtain⟨cs0,g1,g2⟩:=hxs 0 xs[0] (List.getElem?_eq_getElem h0)
   rw[h.1]at g1
   obtain⟨_,hl0,hc0⟩:=World.cells?_some g1
   have g3:=hc0 0 (by omega)
   rw[List.getElem?_eq_getElem (by omega),Nat.zero_mul]at g3
   obtain⟨arr,T,fz,e1,e2,e3⟩:=cell_blk g3
   obtain⟨b,off,sp⟩:=a
   have esp:sp=none:=by
    cases sp with
    |none=>rfl
    |some s=>simp[Addr.add]at e1
   subst esp
   rw[add_lit,add_lit]at e2
   dsimp only at e2
   refine⟨b,off,arr,T,fz,rfl,block_lt e2,e2,fun i y hy=>?_⟩
   obtain⟨cs',q1,q2⟩:=hxs i y hy
   rw[h.1]at q1
   obtain⟨_,hl',hc'⟩:=World.cells?_some q1
   refine⟨cs',q2,fun j v hv=>?_⟩
   have hj:=(List.getElem?_eq_some_iff.1 hv).1
   have q3:=hc' j (by omega)
   rw[hv,add_lit,add_lit]at q3
   obtain⟨arr',T',fz',_,e5,e6⟩:=cell_blk q3
   dsimp only at e5 e6
   rw[e2]at e5
   simp only[Option.some.injEq,Obj.cells.injEq]at e5
   obtain⟨rfl,_,_⟩:=e5
   rw[Array.getElem?_toList]
   exact e6
theorem trod_field{H:Type}{enc:TypeId×Value→H}{w:World}{n:Nat}{t:TypeId}{fs:Array Field}{cs:List Value}{x:DataW H×List MemPlace}(ht:Tryz.prog.underlying t=some (.struct fs))(hx:DataW.trod enc Tryz.prog w 0 (fun _=>true) true n t cs=some x){α:Type}{e:Ty α}{f:Field}(i:Nat)(hf:fs[i]?=some f)(h:Opn f.type e)(hw:∀m∈x.1.weights Tryz.prog t,m≤reachBytes):
 ∃a:α,e.rel (fun b=>b<w.heap.size) w a ((cs.drop f.offset).take e.sz):=by
 obtain⟨xs,m,_,rfl,_,hlen,hall⟩:=DataW.trod_struct ht hx
 have g:=hall i f hf
 have hi:i<fs.size:=(Array.getElem?_eq_some_iff.1 hf).1
 have hi':i<xs.length:=by omega
 rw[List.getElem?_eq_getElem hi',h.1]at g
 refine h.2 g fun m' hm'=>hw m' ?_
 simp only[DataW.weights,ht]
 exact DataW.weights_mem_each (j:=i) (by rw[List.getElem?_map,Array.getElem?_toList,hf];rfl) (by rw[List.getElem?_map,List.getElem?_eq_getElem hi'];rfl) m' hm'
theorem trod_structLen{H:Type}{enc:TypeId×Value→H}{w:World}{n:Nat}{t:TypeId}{fs:Array Field}{cs:List Value}{x:DataW H×List MemPlace}(ht:Tryz.prog.underlying t=some (.struct fs))(hx:DataW.trod enc Tryz.prog w 0 (fun _=>true) true n t cs=some x):cs.length=Tryz.prog.cellsOf t:=by
 obtain⟨xs,m,_,_,h,_⟩:=DataW.trod_struct ht hx
 exact h
theorem opn3:Opn 3 (tI .i64):=opn_int Tryz.underlying3 (by kernel_rfl)
theorem opn2:Opn 2 (tI .i64):=opn_int Tryz.underlying2 (by kernel_rfl)
theorem opn9:Opn 9 tS':=opn_string Tryz.underlying9 (by kernel_rfl)
theorem opn78:Opn 78 (tSl (tI .i64)):=opn_slice Tryz.underlying78 (by kernel_rfl) opn3 (by decide) (by decide +kernel)
theorem opn153:Opn 153 tDim:=by
 refine⟨by kernel_rfl,fun {H enc w n cs x} hx hw=>?_⟩
 have hl:=trod_structLen Tryz.underlying153 hx
 have hc:Tryz.prog.cellsOf 153=3:=by kernel_rfl
 rw[hc]at hl
 obtain⟨a,ha⟩:=trod_field Tryz.underlying153 hx 0 rfl opn9 hw
 obtain⟨b,hb⟩:=trod_field Tryz.underlying153 hx 1 rfl opn3 hw
 obtain⟨c,hc⟩:=trod_field Tryz.underlying153 hx 2 rfl opn3 hw
 match cs,hl,ha,hb,hc with
 |[c0,c1,c2],_,⟨h1,h2⟩,⟨h3,h4⟩,⟨h5,h6⟩ =>
  simp[tS',tI]at h1 h3 h5
  subst h1 h3 h5
  exact⟨⟨a,b,c⟩,rfl,h2,h4,h6⟩
theorem opn156:Opn 156 tAttr:=by
 refine⟨by kernel_rfl,fun {H enc w n cs x} hx hw=>?_⟩
 have hl:=trod_structLen Tryz.underlying156 hx
 have hc:Tryz.prog.cellsOf 156=2:=by kernel_rfl
 rw[hc]at hl
 obtain⟨a,ha⟩:=trod_field Tryz.underlying156 hx 0 rfl opn9 hw
 obtain⟨b,hb⟩:=trod_field Tryz.underlying156 hx 1 rfl opn3 hw
 match cs,hl,ha,hb with
 |[c0,c1],_,⟨h1,h2⟩,⟨h3,h4⟩ =>
  simp[tS',tI]at h1 h3
  subst h1 h3
  exact⟨⟨a,b⟩,rfl,h2,h4⟩
theorem opn161:Opn 161 tVal:=by
 refine⟨by kernel_rfl,fun {H enc w n cs x} hx hw=>?_⟩
 have hl:=trod_structLen Tryz.underlying161 hx
 have hc:Tryz.prog.cellsOf 161=4:=by kernel_rfl
 rw[hc]at hl
 obtain⟨a,ha⟩:=trod_field Tryz.underlying161 hx 0 rfl opn3 hw
 obtain⟨b,hb⟩:=trod_field Tryz.underlying161 hx 1 rfl opn2 hw
 obtain⟨c,hc⟩:=trod_field Tryz.underlying161 hx 2 rfl opn2 hw
 obtain⟨d,hd⟩:=trod_field Tryz.underlying161 hx 3 rfl opn9 hw
 match cs,hl,ha,hb,hc,hd with
 |[c0,c1,c2,c3],_,⟨h1,h2⟩,⟨h3,h4⟩,⟨h5,h6⟩,⟨h7,h8⟩ =>
  simp[tS',tI]at h1 h3 h5 h7
  subst h1 h3 h5 h7
  exact⟨⟨a,b,c,d⟩,rfl,h2,h4,h6,h8⟩
theorem opn79:Opn 79 (tSl tVal):=opn_slice Tryz.underlying79 (by kernel_rfl) opn161 (by decide) (by decide +kernel)
theorem opn_cell{t:TypeId}(ht:Tryz.prog.underlying t=some (.struct #[⟨"At",78,0,false, "", "",0⟩,⟨"Vals",79,1,false, "", "",24⟩]))(hc:Tryz.prog.cellsOf t=2):Opn t tCell:=by
 refine⟨hc,fun {H enc w n cs x} hx hw=>?_⟩
 have hl:=trod_structLen ht hx
 rw[hc]at hl
 obtain⟨a,ha⟩:=trod_field ht hx 0 rfl opn78 hw
 obtain⟨b,hb⟩:=trod_field ht hx 1 rfl opn79 hw
 match cs,hl,ha,hb with
 |[c0,c1],_,h1,h2=>exact⟨⟨a,b⟩,[c0],[c1],rfl,h1,h2⟩
theorem opn147:Opn 147 tCell:=opn_cell Tryz.underlying147 (by kernel_rfl)
theorem opn81:Opn 81 tCell:=opn_cell Tryz.underlying81 (by kernel_rfl)
theorem opn54:Opn 54 (tSl tDim):=opn_slice Tryz.underlying54 (by kernel_rfl) opn153 (by decide) (by decide +kernel)
theorem opn55:Opn 55 (tSl tAttr):=opn_slice Tryz.underlying55 (by kernel_rfl) opn156 (by decide) (by decide +kernel)
theorem opn56:Opn 56 (tSl tCell):=opn_slice Tryz.underlying56 (by kernel_rfl) opn147 (by decide) (by decide +kernel)
theorem opn30:Opn 30 (tSl tCell):=opn_slice Tryz.underlying30 (by kernel_rfl) opn81 (by decide) (by decide +kernel)
theorem opn58:Opn 58 tArr:=by
 refine⟨by kernel_rfl,fun {H enc w n cs x} hx hw=>?_⟩
 have hl:=trod_structLen Tryz.underlying58 hx
 have hc:Tryz.prog.cellsOf 58=3:=by kernel_rfl
 rw[hc]at hl
 obtain⟨a,ha⟩:=trod_field Tryz.underlying58 hx 0 rfl opn54 hw
 obtain⟨b,hb⟩:=trod_field Tryz.underlying58 hx 1 rfl opn55 hw
 obtain⟨c,hc⟩:=trod_field Tryz.underlying58 hx 2 rfl opn56 hw
 match cs,hl,ha,hb,hc with
 |[c0,c1,c2],_,h1,h2,h3=>exact⟨⟨a,b,c⟩,[c0],[c1,c2],rfl,h1,[c1],[c2],rfl,h2,h3⟩
theorem opn60:Opn 60 tNm:=by
 refine⟨by kernel_rfl,fun {H enc w n cs x} hx hw=>?_⟩
 have hl:=trod_structLen Tryz.underlying60 hx
 have hc:Tryz.prog.cellsOf 60=4:=by kernel_rfl
 rw[hc]at hl
 obtain⟨a,ha⟩:=trod_field Tryz.underlying60 hx 0 rfl opn9 hw
 obtain⟨b,hb⟩:=trod_field Tryz.underlying60 hx 1 rfl opn58 hw
 match cs,hl,ha,hb with
 |[c0,c1,c2,c3],_,h1,h2=>exact⟨⟨a,b⟩,[c0],[c1,c2,c3],rfl,⟨h1.1,by have:=h1.2;have:maxSl=140737488355328:=rfl;dsimp only;omega⟩,h2⟩
theorem opn23:Opn 23 (tSl tNm):=opn_slice Tryz.underlying23 (by kernel_rfl) opn60 (by decide) (by decide +kernel)
end Go.Vc
namespace Go.Vc
open Go Go.Proofs
theorem opn32:Opn 32 tBt:=by
 refine⟨by kernel_rfl,fun {H enc w n cs x} hx hw=>?_⟩
 have hl:=trod_structLen Tryz.underlying32 hx
 have hc:Tryz.prog.cellsOf 32=4:=by kernel_rfl
 rw[hc]at hl
 obtain⟨a,ha⟩:=trod_field Tryz.underlying32 hx 0 rfl opn9 hw
 obtain⟨b,hb⟩:=trod_field Tryz.underlying32 hx 1 rfl opn2 hw
 obtain⟨c,hc⟩:=trod_field Tryz.underlying32 hx 2 rfl opn9 hw
 obtain⟨d,hd⟩:=trod_field Tryz.underlying32 hx 3 rfl opn30 hw
 have hmx:maxSl=140737488355328:=rfl
 match cs,hl,ha,hb,hc,hd with
 |[c0,c1,c2,c3],_,⟨h1,h2⟩,⟨h3,h4⟩,⟨h5,h6⟩,h7 =>
  simp[tS',tI]at h1 h3 h5
  subst h1 h3 h5
  exact⟨⟨a,b,c,d⟩,[_,_],[_,_],rfl,⟨[_],[_],rfl,⟨rfl,by dsimp only;omega⟩,⟨rfl,h4⟩⟩,⟨[_],[_],rfl,⟨rfl,by dsimp only;omega⟩,h7⟩⟩
end Go.Vc
namespace Go.Vc
open Go Go.Proofs
theorem opn5:Opn 5 (tI .u8):=opn_int Tryz.underlying5 (by kernel_rfl)
theorem opn33:Opn 33 (tSl (tI .u8)):=opn_slice Tryz.underlying33 (by kernel_rfl) opn5 (by decide) (by decide +kernel)
end Go.Vc
namespace Go.Proofs.YtlmpniofhabmiaaGreat.ingestEvery
open Go.ChangeShapes Go.WideShapes Go.ChangeAt Go.RowKit
theorem own:ownKnob Tryz.prog.godebug=none:=by kernel_rfl
theorem laidOut:laidOutB Tryz.prog=true:=by kernel_rfl
theorem below{w w':World}(h:Go.Vc.KpL [] w w'):Below w.heap.size w w':=⟨h.os,h.tape,h.output,h.size,fun k hk=>h.blk k hk (by simp)⟩
set_option maxRecDepth 100000 in
theorem pair{H:Type}{enc:TypeId×Value→H}{W:World}{base:Nat}{v:Value}{d:DataW H}{ps:List MemPlace}(hval:Value.okWide Tryz.prog W .any base 101 v)(h:DataW.Trod enc Tryz.prog W 0 (fun _=>true) true 101 v d ps)(hw:∀m∈d.weights Tryz.prog 101,m≤reachBytes):
 ∃(b1 b2:Go.Vc.Bt) (ca1:Option Addr) (cn1 cc1:Nat) (ca2:Option Addr) (cn2 cc2:Nat),v=.agg #[.string b1.token,.int .i64 b1.stamp,.string b1.array,.slice ca1 cn1 cc1,.string b2.token,.int .i64 b2.stamp,.string b2.array,.slice ca2 cn2 cc2]∧
  Go.Vc.R Go.Vc.tBt [] W b1 [.string b1.token,.int .i64 b1.stamp,.string b1.array,.slice ca1 cn1 cc1]∧Go.Vc.R Go.Vc.tBt [] W b2 [.string b2.token,.int .i64 b2.stamp,.string b2.array,.slice ca2 cn2 cc2]:=by
 simp only[Value.okWide,Tryz.underlying101]at hval
 obtain⟨cs,rfl,hcs,_⟩:=hval
 have h101:Tryz.prog.cellsOf 101=8:=by kernel_rfl
 have h32:Tryz.prog.cellsOf 32=4:=by kernel_rfl
 rw[h101]at hcs
 obtain⟨n,hn⟩:=h
 obtain⟨xs,m,_,hx,_,hl,hall⟩:=DataW.trod_array Tryz.underlying101 hn
 simp only[Prod.mk.injEq]at hx
 obtain⟨rfl,_⟩:=hx
 have g0:=hall 0 (by omega)
 have g1:=hall 1 (by omega)
 rw[h32,List.getElem?_eq_getElem (by omega)]at g0 g1
 have wx:∀i (hi:i<xs.length),∀m'∈xs[i].1.weights Tryz.prog 32,m'≤reachBytes:=fun i hi m' hm'=>hw m' (by
  simp only[DataW.weights,Tryz.underlying101]
  exact Go.Vc.weightsAll_mem (List.mem_map.2 ⟨xs[i],List.getElem_mem hi,rfl⟩) m' hm')
 obtain⟨b1,r1⟩:=Go.Vc.opn32.2 g0 (wx 0 (by omega))
 obtain⟨b2,r2⟩:=Go.Vc.opn32.2 g1 (wx 1 (by omega))
 have q1:Go.Vc.R Go.Vc.tBt [] W b1 _:=Go.Vc.tBt.mono r1 fun b hb=>⟨⟨hb,by simp⟩,rfl⟩
 have q2:Go.Vc.R Go.Vc.tBt [] W b2 _:=Go.Vc.tBt.mono r2 fun b hb=>⟨⟨hb,by simp⟩,rfl⟩
 obtain⟨ca1,cn1,cc1,e1,_⟩:=q1.bt
 obtain⟨ca2,cn2,cc2,e2,_⟩:=q2.bt
 rw[e1]at q1
 rw[e2]at q2
 clear g0 g1 r1 r2 hn hall
 obtain⟨l⟩:=cs
 match l,hcs with
 |[c0,c1,c2,c3,c4,c5,c6,c7],_ =>
  simp[Value.cells]at e1 e2
  obtain⟨rfl,rfl,rfl,rfl⟩:=e1
  obtain⟨rfl,rfl,rfl,rfl⟩:=e2
  exact⟨b1,b2,_,_,_,_,_,_,rfl,q1,q2⟩
set_option maxRecDepth 100000 in
theorem lifted(os:Os)(started:os.Started)(H:Type)(enc:TypeId×Value→H):
 ReturnsInHanded {} Tryz.checked os 6 .any (Rows.ingestEverySpec.pre6 enc Tryz.prog Tryz.f6 Rows.ingestEveryRow.domain false) (Rows.ingestEverySpec.post enc Tryz.prog Tryz.f6 false true false false):=by
 refine returnsInHanded_of_change_sized (C:=Tryz.checked) own started (by kernel_rfl) Tryz.func6
  (ChangeSpec.witness6 (enc:=enc) (C:=Tryz.checked) false ⟨#[],#[.slice none 0 0,.agg #[.string ByteArray.empty,.int .i64 0,.string ByteArray.empty,.slice none 0 0,.string ByteArray.empty,.int .i64 0,.string ByteArray.empty,.slice none 0 0],.slice none 0 0],[]⟩ 8 (by kernel_rfl) (by kernel_rfl) (by kernel_rfl) (by kernel_rfl)) ?_
 intro W base args ds gs before hval0 hW hcnd hsz _
 have hval:∀(j:Nat) t v,Tryz.f6.params[j]?=some t→args[j]?=some v→Value.okWide Tryz.prog W .any base t v:=hval0
 have hW':=hW
 obtain⟨p,q,hA0,hV,rfl,hfz,hnd⟩:=hW
 have hA:DataW.TrodAll enc Tryz.prog W 0 (fun _=>true) true Tryz.f6.params.toList args.toList ds p:=hA0
 rw[Tryz.params6]at hA hval hsz
 obtain⟨v0,vs0,d0,ds0,p0,q0,hargs,rfl,rfl,h0,r0⟩:=trodAll_cons hA
 obtain⟨v1,vs1,d1,ds1,p1,q1,rfl,rfl,rfl,h1,r1⟩:=trodAll_cons r0
 obtain⟨v2,vs2,d2,ds2,p2,q2,rfl,rfl,rfl,h2,r2⟩:=trodAll_cons r1
 obtain⟨rfl,rfl,rfl⟩:=trodAll_nil r2
 obtain rfl:args=#[v0,v1,v2]:=by cases args;simp_all
 obtain⟨rfl,rfl⟩:=trodVars_none hV
 have wt:∀(j:Nat) (t:TypeId) (d:DataW H),([23,101,33]:List TypeId)[j]?=some t→[d0,d1,d2][j]?=some d→∀m∈d.weights Tryz.prog t,m≤reachBytes:=fun j t d ht hd m hm=>by
  have:=List.all_eq_true.1 hsz m (DataW.weights_mem_each (j:=j) (by rw[List.getElem?_append_left (by have:=(List.getElem?_eq_some_iff.1 ht).1;simpa using this)];exact ht) (by rw[List.getElem?_append_left (by have:=(List.getElem?_eq_some_iff.1 hd).1;simpa using this)];exact hd) m hm)
  simpa using this
 obtain⟨a0,n0,c0,rfl⟩:=okWide_slice Tryz.underlying23 (hval 0 23 v0 rfl rfl)
 obtain⟨b1,b2,ca1,cn1,cc1,ca2,cn2,cc2,rfl,hb1,hb2⟩:=pair (hval 1 101 v1 rfl rfl) h1 (wt 1 101 d1 rfl rfl)
 obtain⟨a2,n2,c2,rfl⟩:=okWide_slice Tryz.underlying33 (hval 2 33 v2 rfl rfl)
 have lt:∀{t:TypeId} {v:Value} {d:DataW H} {ps:List MemPlace},DataW.Trod enc Tryz.prog W 0 (fun _=>true) true t v d ps→∀x∈ps,x.block<W.heap.size:=fun⟨m,hm⟩=>DataW.trod_lt m _ _ _ hm
 obtain⟨db,hdb⟩:=Go.Vc.opn23.R h0 (wt 0 23 d0 rfl rfl)
 obtain⟨l,hl⟩:=Go.Vc.opn33.R h2 (wt 2 33 d2 rfl rfl)
 clear hA0 hval0
 refine(Go.Vc.gEvery_ok hdb hb1 hb2 hl).mono fun e W' ⟨he,hk⟩=>?_
 subst he
 have bel:=below hk
 exact⟨_,rfl,_,_,_,[],_,[],hW',trodAll_mk1 (shut_bool Tryz.underlying4 _),(trodAll_cons_mk (Below.trod laidOut (by kernel_rfl) (of_decide_eq_true (by kernel_rfl)) h0 bel (lt h0)) (trodAll_cons_mk (Below.trod laidOut (by kernel_rfl) (of_decide_eq_true (by kernel_rfl)) h1 bel (lt h1)) (trodAll_cons_mk (Below.trod laidOut (by kernel_rfl) (of_decide_eq_true (by kernel_rfl)) h2 bel (lt h2)) trodAll_mk0))),rfl,bel.frame _,fun h=>by cases h⟩
theorem over:Rows.ingestEveryRow.holds Tryz.pinned (OpenSpec.ofChange Rows.ingestEverySpec) :=
 OpenClaim.holds_of_wide 6 Tryz.f6 rfl rfl rfl rfl rfl rfl rfl ⟨rfl,rfl,rfl,rfl,rfl⟩ rfl rfl rfl rfl rfl (by kernel_rfl) Tryz.func6 (by kernel_rfl)
  (of_decide_eq_true (by kernel_rfl)) (by unfold Func.isWrapper;rw[if_neg (of_decide_eq_false (by kernel_rfl))];exact⟨rfl,rfl⟩)
  (fun os started H enc _=>lifted os started H enc)
theorem proved:Rows.IngestEverySaid:=over
#print axioms proved
end Go.Proofs.YtlmpniofhabmiaaGreat.ingestEvery
