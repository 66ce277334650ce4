/- A part of the proof of the theorem that this claim hands in: merged by a small program out of texts of my own. -/
import Derived.Test.YtlmpniofhabmiaaGreatEveD
set_option linter.unusedVariables false
set_option linter.unusedSimpArgs false
set_option linter.unusedSectionVars false
namespace Go.Vc
open Go Go.Proofs
theorem ev_box{P:Program}{T:TypeId}{cs:Array Value}{w:World}{Q:Value→World→Prop}
 (h:∀w',w'.heap[w.heap.size]?=some (.cells cs T (0,0))→KpL [] w w'→Q (.pointer (some ⟨w.heap.size,0,none⟩)) w'):Ev P (Instr.box T (.agg cs)) w Q:=by
 refine⟨_,w.alloc (.cells cs T (0,0)),?_,h _ ?_ ((KpL.refl _ _).alloc _)⟩
 ·simp only[Instr.box,newVar,newRow,Sem.run_bind,run_newObj,Result.andThen_ok,Sem.run_pure]
  rfl
 ·show(w.heap.push _)[w.heap.size]?=_
  simp
def Recs(k:Dk)(num:Int):Nat→List (Int×List Int)→Nat→Prop
 |i,[],e=>e=i∧(k.readRec num i).1=0∧(k.readRec num i).2.2.2=0
 |i,q::r,e=>∃nx,k.readRec num i=(q.1,q.2,nx,0)∧i<nx∧nx≤k.half∧Recs k num nx r e
def baseSto(arrays:List Nm)(bs:List Seen)(ps:List (Pl×Sta)):Sto:=⟨0,arrays,ps,bs,1+8*arrays.length+3*ps.length+bs.length⟩
def Sto.commits(st:Sto)(l:List Bt):Sto:=l.foldl Sto.commit st
structure StoJ (arrays:List Nm) (j:Nat) (st:Sto):Prop where
 arr:st.arrays=arrays
 bn:st.batches.length≤1000+j
 pb:∀p∈st.places,0≤p.2.batch∧p.2.batch≤st.batches.length
 u0:0≤st.use
 u1:st.use≤100000+50*j
theorem StoJ.commit{arrays:List Nm}{j:Nat}{st:Sto}{b:Bt}(h:StoJ arrays j st)(hb:BtOk st b):StoJ arrays (j+1) (st.commit b):=by
 have h2:=hb.c2
 refine⟨h.arr,by show(st.batches++[b.seen]).length≤_;have:=h.bn;simp;omega,fun p hp=>?_,by show 0≤st.use+b.weight;have:=h.u0;unfold Bt.weight;omega,by show st.use+b.weight≤_;have:=h.u1;unfold Bt.weight;omega⟩
 have hl:((st.commit b).batches.length:Nat)=st.batches.length+1:=by show(st.batches++[b.seen]).length=_;simp
 rw[hl]
 rcases putPs_mem (show p∈putPs (st.batches++[b.seen]) (st.batches.length+1:Nat) (findA_ st.arrays b.array) st.places b.changes from hp) with ⟨c,_,rfl⟩|hp
 ·simp;omega
 ·have:=h.pb p hp;omega
theorem BtOk.of_arr{st st':Sto}{b:Bt}(h:BtOk st b)(e:st'.arrays=st.arrays):BtOk st' b:=by
 obtain⟨a1,a2,a3,a4,a5,a6,a7,a8⟩:=h
 exact⟨a1,a2,a3,by rw[e];exact a4,a5,a6,by rw[e];exact a7,by rw[e];exact a8⟩
def mOf(l h:Nat)(w:World):Nat:=match w.heap[l]? with
 |some (Obj.cells arr _ _)=>match arr[2]? with
  |some (Value.int _ n)=>h+1 - n.toNat
  |_=>0
 |_=>0
theorem mOf_at{w:World}{l d h n:Nat}{num:Int}(hl:LogAt w l d num n):mOf l h w=h+1 - n:=by
 unfold mOf
 unfold LogAt at hl
 rw[hl]
 rfl
theorem LogAt.ld1{w:World}{l d:Nat}{num nxt:Int}(h:LogAt w l d num nxt):LdA w ((⟨l,0,none⟩:Addr).add 1) [.int .u64 num]:=by rw[add_lit];exact ldA_blk h 1 _ rfl
theorem LogAt.ld2{w:World}{l d:Nat}{num nxt:Int}(h:LogAt w l d num nxt):LdA w ((⟨l,0,none⟩:Addr).add 2) [.int .i64 nxt]:=by rw[add_lit];exact ldA_blk h 2 _ rfl
theorem LogAt.set2{w:World}{l d:Nat}{num nxt:Int}(h:LogAt w l d num nxt)(n:Int):LogAt (stA w ((⟨l,0,none⟩:Addr).add 2) [.int .i64 n] 0) l d num n:=by rw[add_lit];exact stA_ld (off:=2) (l:=[_]) h (by simp)
theorem LogAt.kp2{w:World}{l d:Nat}{num nxt:Int}(_:LogAt w l d num nxt)(n:Int):KpL [l] w (stA w ((⟨l,0,none⟩:Addr).add 2) [.int .i64 n] 0):=by rw[add_lit];exact stA_kp w ⟨l,0+2,none⟩ _
theorem StoreAt.next{M F:List Nat}{w w':World}{s l d:Nat}{num nxt nxt':Int}{st:Sto}(h:StoreAt M w s l d num nxt st F)(hk:KpL [l] w w')(hl:LogAt w' l d num nxt'):StoreAt M w' s l d num nxt' st F:=by
 obtain⟨m,ra,rn,rc,qa,qn,qc,hI,hl0,rfl⟩:=h
 have hI':StoIn ([]++M) w s l st m ra rn rc qa qn qc:=hI
 exact⟨m,ra,rn,rc,qa,qn,qc,hI'.stepL (Fd:=[]) hk (fun b hb=>⟨.inl hb,by have:=hI.mlt b hb;have:=hk.size;omega⟩) (block_lt hl0),hl,rfl⟩
set_option maxHeartbeats 4000000 in
theorem sOpen_ok{M Fd:List Nat}{w:World}{d:Nat}{k:Dk}{arrays:List Nm}{bs:List Seen}{ps:List (Pl×Sta)}{bt:List Bt}{e:Nat}(h:DkAt M w d k Fd)(h2:2≤k.n)(hdn:k.down=false)(hpl:k.pend.length≤1000000)(hnz:k.newest≠0)(hnum:0≤k.newest)
 (hst:InI .i64 ((k.clear k.newest e).2.st+1))(hrec:Recs k k.newest 0 ((1,encBase arrays bs ps)::bt.map fun b=>(2,encB arrays b)) e)(hv:StoV (baseSto arrays bs ps))(hb:∀b∈bt,BtOk (baseSto arrays bs ps) b)(hbl:bt.length≤1000):
 Calls Tryz.prog 15 #[.pointer (some ⟨d,0,none⟩)] w fun en w' =>
  if (k.clear k.newest e).1≠0 then en=.returned (.tuple #[.pointer none,.int .i64 (k.clear k.newest e).1])∧∃Fd',DkAt M w' d (k.clear k.newest e).2 Fd'∧Own Fd w Fd' w'
  else ∃s l F Fd',en=.returned (.tuple #[.pointer (some ⟨s,0,none⟩),.int .i64 0])∧SysAt M w' s l d k.newest e { (baseSto arrays bs ps).commits bt with id:=(k.clear k.newest e).2.st+1 } { (k.clear k.newest e).2 with st:=(k.clear k.newest e).2.st+1 } F Fd'∧Own Fd w (F++Fd') w':=by
 have hmx:maxSl=140737488355328:=rfl
 obtain⟨ss,hs1,hs2,hs3⟩:=h.ok.secs
 have hhalf:=k.half_le
 have hMl:=h.mlt
 have hFl:=h.own_lt
 refine sOpen_vc ⟨(dIs_ok h).mono ?_⟩
 rintro en w1 ⟨rfl,hw1⟩
 refine⟨_,rfl,hw1,fun hc=>by simp at hc,fun _=>⟨k.down,(h.kp0 hw1).cell.1,fun hc=>(by rw[hdn]at hc;cases hc),fun _=>⟨(newest_ok (h.kp0 hw1) h2).mono ?_⟩⟩⟩
 rintro en w2 ⟨hw2,hres⟩
 rw[if_neg (by simp[hdn])]at hres
 obtain⟨l,rfl,hl2,hlnew,hnI⟩:=hres
 have hk02:=hw1.trans hw2
 generalize hN:k.newest=num at *
 have s02:=hk02.size
 have s1:=hw1.size
 refine⟨_,_,rfl,hw2,fun hc=>absurd rfl hc,fun _=>⟨⟨l,0,none⟩,rfl,num,hl2.ld1,fun hc=>absurd hc hnz,fun _=>ev_box fun w3 hs3' hw3=>⟨_,rfl,[],hw3,?_⟩⟩⟩
 have hk03:=hk02.trans hw3
 generalize hss:w2.heap.size=s at *
 have hll2:=block_lt hl2
 have hsl:s≠l:=by omega
 have hl3:=hl2.keep hw3 (by simp)
 have hs3'':SC w3 s l 0 none 0 0 none none 0 0 0:=hs3'
 have hFM:∀b∈Fd++M,b<w.heap.size:=by
  intro b hb
  rcases List.mem_append.1 hb with hb|hb
  ·exact(hFl b hb).1
  ·exact hMl b hb
 have hsM:s∉Fd++M:=fun hm=>by have:=hFM s hm;omega
 have hlM:l∉Fd++M:=fun hm=>by have:=hFM l hm;omega
 have hslt:=block_lt hs3'
 let A:World→Prop:=fun w'=>SC w' s l 0 none 0 0 none none 0 0 0∧LogAt w' l d num (0:Nat)
 let B:World→Prop:=fun w'=>∃(j i:Nat) (F:List Nat),j≤bt.length∧i≤k.half∧StoreAt (Fd++M) w' s l d num i ((baseSto arrays bs ps).commits (bt.take j)) F∧StoJ arrays j ((baseSto arrays bs ps).commits (bt.take j))∧(∀b∈F,w.heap.size≤b)∧Recs k num i ((bt.drop j).map fun b=>(2,encB arrays b)) e
 refine⟨fun _ w'=>KpL [] w w'∧(A w'∨B w'),fun _ w'=>mOf l k.half w',⟨hk03,.inl ⟨hs3'',hl3⟩⟩,?_⟩
 rintro w4 ⟨hk04,hAB⟩
 have s04:=hk04.size
 have hdk:∀{w':World} {F:List Nat},KpL [] w w'→(∀b∈F,w.heap.size≤b)→(∀b∈F,b<w'.heap.size)→DkAt (F++M) w' d k Fd:=by
  intro w' F hk hF hF'
  refine h.step hk (by simp) fun b hb=>?_
  rcases List.mem_append.1 hb with hb|hb
  ·exact⟨.inr (hF b hb),hF' b hb⟩
  ·exact⟨.inl hb,by have:=hMl b hb;have:=hk.size;omega⟩
 have hD4:DkAt ([]++M) w4 d k Fd:=hdk hk04 (by simp) (by simp)
 rcases hAB with ⟨hsA,hlA⟩|⟨j,i,F,hj,hi,hSt,hJ,hFn,hR⟩
 ·obtain⟨nx,hrr,hnx1,hnx2,hR⟩:=hrec
  have hNl:∀b∈s::l::(Fd++M),b<w4.heap.size:=by
   intro b hb
   simp only[List.mem_cons]at hb
   rcases hb with rfl|rfl|hb
   ·exact block_lt hsA
   ·exact block_lt hlA
   ·have:=hFM b hb;omega
  refine⟨_,rfl,_,hlA.ld2,⟨(lRead_ok (N:=s::l::(Fd++M)) hD4 hlA h2 hnum hNl (i:=0) (by omega)).mono ?_⟩⟩
  rw[hrr]
  rintro en w5 ⟨a,n,c,rfl,hw5,hRb⟩
  have hs5:=hsA.keep hw5 (by simp)
  refine⟨_,_,_,_,_,_,rfl,_,hw5,fun hc=>absurd rfl hc,fun _=>⟨fun hc=>by simp at hc,fun _=>⟨fun _=>⟨_,hs5.ld3,fun _ k3 hk3 w8 hw8 hkn8=>?_,fun hc=>absurd rfl hc⟩,fun hc=>absurd rfl hc⟩⟩⟩
  have hl8:=(hlA.keep hw5 (by simp)).keep hw8 (by simp)
  have s5:=hw5.size
  have s8:=hw8.size
  have hrd:RdAt (s::(Fd++M)) w8 k3 (encBase arrays bs ps):=⟨a,n,c,137,hkn8,(hRb.fresh hw8 (N:=[k3]) (by simpa using hk3)).weak fun b hb=>by simp at hb ⊢;rcases hb with rfl|rfl|hb|hb<;>simp[*]⟩
  have hsl5:=block_lt hs5
  have hll5:=block_lt (hlA.keep hw5 (by simp))
  refine⟨(sRead_ok (st:=baseSto arrays bs ps) (hs5.keep hw8 (by simp)) hl8 (fun b hb=>by have:=hFM b hb;omega) hsl hsM hlM (by omega) (fun hm=>by have:=hFM k3 hm;omega) (by omega) hrd hv (ini_i64.2 (by show(-_:Int)≤(0:Int)∧(0:Int)≤_;omega)) (ini_i64.2 (by omega))).mono ?_⟩
  rintro en w9 ⟨rfl,hw9,F,hSt,hF⟩
  have hk08:=(hk04.trans hw5).trans hw8
  have hl9:=hSt.log
  have hk09:KpL [] w w9:=hk08.more hw9 fun b hb=>.inr (by simp at hb;rcases hb with rfl|rfl<;>omega)
  refine⟨rfl,_,hw9,⟨l,0,none⟩,rfl,⟨_,hl9.ld2,rfl⟩,by rw[add_lit];exact notFrozen hl9,?_⟩
  rintro w10 rfl
  have hk10:=hl9.kp2 (nx:Int)
  have hF':∀b∈F,w.heap.size≤b:=fun b hb=>by
   rcases hF b hb with rfl|rfl|hb
   ·omega
   ·omega
   ·have:=hk08.size;omega
  refine⟨⟨hk09.more hk10 fun b hb=>.inr (by simp at hb;omega),.inr ⟨0,nx,F,by omega,hnx2,hSt.next hk10 (hl9.set2 _),⟨rfl,by show bs.length≤_;have:=hv.bn;exact this,fun p hp=>?_,?_,?_⟩,hF',by simpa using hR⟩⟩,?_⟩
  ·have:=hv.pls p hp
   exact⟨this.b0,this.b1⟩
  ·show(0:Int)≤1+8*arrays.length+3*ps.length+bs.length;omega
  ·have h1:=hv.an
   have h2:=hv.pn
   have h3:=hv.bn
   have h1':arrays.length≤16:=h1
   have h2':ps.length≤4000:=h2
   have h3':bs.length≤1000:=h3
   show(1+8*(arrays.length:Int)+3*ps.length+bs.length)≤_;omega
  ·show mOf l k.half (stA w9 ((⟨l,0,none⟩:Addr).add 2) [.int .i64 (nx:Int)] 0)<mOf l k.half w4
   rw[mOf_at (hl9.set2 (nx:Int)),mOf_at hlA];omega
 ·have hlB:=hSt.log
  have hsB:∀{w':World},KpL [] w4 w'→∃m,LdA w' ((⟨s,0,none⟩:Addr).add 3) [.map (some m)]:=fun hk=>by
   obtain⟨m,ra,rn,rc,qa,qn,qc,hI,_,_⟩:=hSt
   exact⟨m,by rw[add_lit];exact ldA_blk ((hk.blk s (block_lt hI.hs) (by simp)).trans hI.hs) 3 _ rfl⟩
  have hDF:DkAt (F++M) w4 d k Fd:=hdk hk04 hFn fun b hb=>(hSt.own_lt b hb).1
  have hNl:∀b∈F++(Fd++M),b<w4.heap.size:=by
   intro b hb
   rcases List.mem_append.1 hb with hb|hb
   ·exact(hSt.own_lt b hb).1
   ·have:=hFM b hb;omega
  refine⟨_,rfl,_,hlB.ld2,⟨(lRead_ok (N:=F++(Fd++M)) hDF hlB h2 hnum hNl (i:=i) (by omega)).mono ?_⟩⟩
  rintro en w5 ⟨a,n,c,rfl,hw5,hRb⟩
  obtain⟨m,hm5⟩:=hsB hw5
  have s5:=hw5.size
  cases hbd:bt.drop j with
  |nil =>
   rw[hbd]at hR
   obtain⟨rfl,hq0,he0⟩:=hR
   have hje:bt.take j=bt:=List.take_of_length_le (by have:=congrArg List.length hbd;simp at this;omega)
   rw[hje]at hSt
   refine⟨_,_,_,_,_,_,rfl,_,hw5,fun hc=>absurd he0 hc,fun _=>⟨fun _=>⟨_,hm5,fun hc=>(by cases hc),fun _=>⟨_,rfl,_,(hlB.keep hw5 (by simp)).ld2,⟨(lClear_ok (hDF.kp0 hw5) (hlB.keep hw5 (by simp)) (List.mem_append_left _ hSt.lF) h2 hnum (by omega) hpl).mono ?_⟩⟩⟩,fun hc=>absurd hq0 hc⟩⟩
   rintro en w6 ⟨rfl,Fd',hD6,hO6⟩
   have hOw:Own Fd w Fd' w6:=(Own.of0 (hk04.trans hw5)).trans hO6
   refine⟨_,rfl,_,hO6.kp,fun hne=>?_,fun hz=>?_⟩
   ·rw[if_pos hne]
    exact⟨rfl,Fd',hD6.weak fun b hb=>by simp[hb],hOw⟩
   have hSt6:StoreAt (Fd'++M) w6 s l d num e ((baseSto arrays bs ps).commits bt) F:=(hSt.kp0 hw5).step hO6.kp (fun b hb=>by simp[hb]) fun b hb=>by
    rcases List.mem_append.1 hb with hb|hb
    ·exact⟨(hO6.new b hb).imp (fun h=>by simp[h]) id,(hD6.own_lt b hb).1⟩
    ·exact⟨.inl (by simp[hb]),hD6.mlt b (by simp[hb])⟩
   refine⟨(opened_ok hSt6 hD6 hst).mono ?_⟩
   rintro en w7 ⟨rfl,hS7,hD7,hO7⟩
   refine⟨_,rfl,_,hO7.kp,?_⟩
   rw[if_neg hz]
   refine⟨s,l,F,Fd',rfl,⟨hS7,hD7⟩,?_⟩
   refine⟨hOw.kp.more hO7.kp fun b hb=>?_,fun b hb=>?_⟩
   ·rcases List.mem_append.1 hb with hb|hb
    ·exact .inr (hFn b hb)
    ·exact hOw.new b hb
   ·rcases List.mem_append.1 hb with hb|hb
    ·exact .inr (hFn b hb)
    ·exact hOw.new b hb
  |cons b br =>
   rw[hbd,List.map_cons]at hR
   obtain⟨nx,hrr,hnx1,hnx2,hR⟩:=hR
   rw[hrr]at hRb ⊢
   have hjl:j<bt.length:=by have:=congrArg List.length hbd;simp at this;omega
   have hbj:bt[j]=b:=by rw[List.drop_eq_getElem_cons hjl]at hbd;exact(List.cons.inj hbd).1
   have hbr:bt.drop (j+1)=br:=by rw[List.drop_eq_getElem_cons hjl]at hbd;exact(List.cons.inj hbd).2
   have htk:bt.take (j+1)=bt.take j++[b]:=by rw[←hbj,List.take_append_getElem hjl]
   have hbo:=hb b (by rw[←hbj];exact List.getElem_mem hjl)
   generalize hsj:(baseSto arrays bs ps).commits (bt.take j)=stj at *
   have hbo':BtOk stj b:=hbo.of_arr hJ.arr
   have hnext:(baseSto arrays bs ps).commits (bt.take (j+1))=stj.commit b:=by
    rw[htk]
    unfold Sto.commits at hsj ⊢
    rw[List.foldl_append,hsj]
    rfl
   refine⟨_,_,_,_,_,_,rfl,_,hw5,fun hc=>absurd rfl hc,fun _=>⟨fun hc=>by simp at hc,fun _=>⟨fun hc=>by simp at hc,fun _=>⟨fun _=>⟨_,hm5,fun _ k7 hk7 w15 hw15 hkn15=>?_,fun hc=>absurd (by simp) hc⟩,fun hc=>absurd rfl hc⟩⟩⟩⟩
   have s15:=hw15.size
   have hk415:KpL [] w4 w15:=hw5.trans hw15
   have k7l:=block_lt hkn15
   have hS15:StoreAt (k7::(Fd++M)) w15 s l d num i stj F:=hSt.step hk415 (by simp) fun x hx=>by
    rcases List.mem_cons.1 hx with rfl|hx
    ·exact⟨.inr (by omega),k7l⟩
    ·exact⟨.inl hx,by have:=hFM x hx;omega⟩
   have hrd:RdAt [] w15 k7 (encB stj.arrays b):=by
    rw[hJ.arr]
    exact⟨a,n,c,137,hkn15,(hRb.fresh hw15 (N:=[k7]) (by simpa using hk7)).weak fun x hx=>by simp at hx;simp[hx]⟩
   have hsch:∀x∈stj.arrays,schemaE x.arr.dims x.arr.attrs=0:=by rw[hJ.arr];exact hv.sch
   have han:stj.arrays.length≤16:=by rw[hJ.arr];exact hv.an
   have hKl:∀x∈F++[k7],x<w15.heap.size:=by
    intro x hx
    rcases List.mem_append.1 hx with hx|hx
    ·have:=(hSt.own_lt x hx).1;omega
    ·simp at hx;omega
   refine⟨(sBatch_ok (K:=F++[k7]) hS15 (by simp) hKl (by simp) hrd hsch han hbo').mono ?_⟩
   rintro en w16 ⟨ca,cn,cc,rfl,hw16,hRc⟩
   have hS16:=hS15.step (M':=k7::(Fd++M)) hw16 (by simp) fun x hx=>⟨.inl hx,by have:=hS15.mlt x hx;have:=hw16.size;omega⟩
   obtain⟨x,hx,hall⟩:=hbo'.arr
   have hchg:=fun c hcm=>change_len (hsch x (List.mem_of_getElem? hx)) (hall c hcm)
   have htk12:=nameOk_12 hbo'.tok
   have c2:=hbo'.c2
   have t0:=hbo'.s0
   have t1:=hbo'.s1
   have u0:=hJ.u0
   have u1:=hJ.u1
   have bn:=hJ.bn
   refine⟨_,_,_,_,_,_,rfl,_,hw16,⟨(sCommit_ok hS16 hRc (by omega) (ini_i64.2 (by omega)) (by omega) (fun c hcm=>⟨(hchg c hcm).1,by have:=(hchg c hcm).2.1;omega⟩) (by omega) hJ.pb (ini_i64.2 (by have:=hbo'.k0;have:=findA_lt stj.arrays b.array;omega)) ⟨u0,by omega⟩).mono ?_⟩⟩
   rintro en w17 ⟨rfl,F',hS17,hO17⟩
   have hl17:=hS17.log
   refine⟨rfl,_,hO17.kp,⟨l,0,none⟩,rfl,⟨_,hl17.ld2,rfl⟩,by rw[add_lit];exact notFrozen hl17,?_⟩
   rintro w18 rfl
   have hk18:=hl17.kp2 (nx:Int)
   have hkw16:KpL [] w w16:=(hk04.trans hk415).more hw16 fun y hy=>.inr (by simp at hy;omega)
   have s16:=hkw16.size
   have hF':∀y∈F',w.heap.size≤y:=fun y hy=>(hO17.new y hy).elim (hFn y) fun h=>by omega
   refine⟨⟨(hkw16.more hO17.kp fun y hy=>.inr (hFn y hy)).more hk18 fun y hy=>.inr (by simp at hy;omega),.inr ⟨j+1,nx,F',by omega,hnx2,?_,?_,hF',by rw[hbr];exact hR⟩⟩,?_⟩
   ·rw[hnext]
    exact(hS17.weak fun y hy=>by simp only[List.mem_cons];exact .inr hy).next hk18 (hl17.set2 _)
   ·rw[hnext]
    exact hJ.commit hbo'
   ·show mOf l k.half (stA w17 ((⟨l,0,none⟩:Addr).add 2) [.int .i64 (nx:Int)] 0)<mOf l k.half w4
    rw[mOf_at (hl17.set2 (nx:Int)),mOf_at hlB];omega
end Go.Vc
namespace Go.Vc
open Go Go.Proofs
open Go.Value Go.Ending Go.IntKind
set_option maxRecDepth 100000
theorem cClear_vc{v l:Nat}{w:World}{R:Ending→World→Prop}
 (hk:Hb w v #[pointer (some (Addr.mk l 0 none))] 113)
 (h :
 Hb w v #[pointer (some (Addr.mk l 0 none))] 113→
 CallW Tryz.prog 57 #[pointer (some (Addr.mk l 0 none)),int i64 0] w fun e1 w1 =>
 ∃n1,e1=returned (int i64 n1)∧
 ∃l1,KpL l1 w w1∧
 NotIn v l1∧
 (Hb w1 v #[pointer (some (Addr.mk l 0 none))] 113→
 R (returned (int i64 n1)) w1)):Calls Tryz.prog 56 #[pointer (some (Addr.mk v 0 none))] w R :=
 fncK (an:={ muts:=[57],all:=true }) (args:=[.a (.c (.loc 0 0))]) (rho:=[v]) (hp:=[(0,113,[.v (.pointer (some ⟨l,0,none⟩))])]) Tryz_ok Tryz.func56 (by kernel_rfl) rfl rfl hk (by simp) (by simpa using block_lt hk) rfl (by simp) h
theorem cBase_vc{v l sv s:Nat}{w:World}{R:Ending→World→Prop}
 (hk:Hb w v #[pointer (some (Addr.mk l 0 none))] 113∧
 Hb w sv #[pointer (some (Addr.mk s 0 none))] 41)
 (hnd:([v,sv]:List Nat).Nodup)(hlt:∀b∈([v,sv]:List Nat),b<w.heap.size)
 (h :
 ∀w1,KpL [] w w1→
 Hb w1 v #[pointer (some (Addr.mk l 0 none))] 113∧
 Hb w1 sv #[pointer (some (Addr.mk s 0 none))] 41→
 CallW Tryz.prog 59 #[pointer (some (Addr.mk s 0 none))] w1 fun e1 w2 =>
 ∃a1 k1 k2,e1=returned (slice a1 k1 k2)∧
 KpL [] w1 w2∧
 (Hb w2 v #[pointer (some (Addr.mk l 0 none))] 113∧
 Hb w2 sv #[pointer (some (Addr.mk s 0 none))] 41→
 CallW Tryz.prog 52 #[pointer (some (Addr.mk l 0 none)),int u8 1,slice a1 k1 k2] w2 fun e2 w3 =>
 ∃n1,e2=returned (int i64 n1)∧
 ∃l1,KpL l1 w2 w3∧
 (NotIn v l1∧
 NotIn sv l1)∧
 (Hb w3 v #[pointer (some (Addr.mk l 0 none))] 113∧
 Hb w3 sv #[pointer (some (Addr.mk s 0 none))] 41→
 R (returned (int i64 n1)) w3))):Calls Tryz.prog 58 #[pointer (some (Addr.mk v 0 none)),pointer (some (Addr.mk sv 0 none))] w R :=
 fncK (an:={ muts:=[52],all:=true }) (args:=[.a (.c (.loc 0 0)),.a (.c (.loc 1 0))]) (rho:=[v,sv]) (hp:=[(0,113,[.v (.pointer (some ⟨l,0,none⟩))]),(1,41,[.v (.pointer (some ⟨s,0,none⟩))])]) Tryz_ok Tryz.func58 (by kernel_rfl) rfl rfl hk hnd hlt rfl (by simp) h
theorem fZero_vc{v d:Nat}{w:World}{R:Ending→World→Prop}
 (hk:Hb w v #[pointer (some (Addr.mk d 0 none))] 40)
 (h :
 Hb w v #[pointer (some (Addr.mk d 0 none))] 40→
 CallW Tryz.prog 80 #[pointer (some (Addr.mk d 0 none))] w fun e1 w1 =>
 ∃n1,e1=returned (int i64 n1)∧
 KpL [] w w1∧
 ∃(P1:List Value→World→Prop) (P2:List Value→World→Nat),(Hb w1 v #[pointer (some (Addr.mk d 0 none))] 40→
 P1 [int i64 0] w1)∧
 ∀n2 w2,P1 [int i64 n2] w2→
 (n2<n1→
 ∀w3,KpL [] w2 w3→
 Hb w3 v #[pointer (some (Addr.mk d 0 none))] 40→
 Ev Tryz.prog (Instr.makeSlice 33 (int i64 64) (int i64 64)) w3 fun y1 w4 =>
 ∃a1 k1 k2,y1=slice a1 k1 k2∧
 ∃l1,KpL l1 w3 w4∧
 NotIn v l1∧
 (Hb w4 v #[pointer (some (Addr.mk d 0 none))] 40→
 (LdA w4 (Addr.mk v 0 none) [pointer (some (Addr.mk d 0 none))]∧
 True)∧
 (Hb w4 v #[pointer (some (Addr.mk d 0 none))] 40→
 CallW Tryz.prog 32 #[pointer (some (Addr.mk d 0 none)),int i64 n2,slice a1 k1 k2] w4 fun e2 w5 =>
 ∃n3,e2=returned (int i64 n3)∧
 ∃l2,KpL l2 w4 w5∧
 NotIn v l2∧
 (n3≠0→
 Hb w5 v #[pointer (some (Addr.mk d 0 none))] 40→
 R (returned (int i64 n3)) w5)∧
 (¬n3≠0→
 InI i64 (n2+1)∧
 (Hb w5 v #[pointer (some (Addr.mk d 0 none))] 40→
 P1 [int i64 (n2+1)] w5∧
 P2 [int i64 (n2+1)] w5<P2 [int i64 n2] w2)))))∧
 (¬n2<n1→
 Hb w2 v #[pointer (some (Addr.mk d 0 none))] 40→
 CallW Tryz.prog 37 #[pointer (some (Addr.mk d 0 none))] w2 fun e3 w6 =>
 ∃n4,e3=returned (int i64 n4)∧
 ∃l3,KpL l3 w2 w6∧
 NotIn v l3∧
 (Hb w6 v #[pointer (some (Addr.mk d 0 none))] 40→
 R (returned (int i64 n4)) w6))):Calls Tryz.prog 79 #[pointer (some (Addr.mk v 0 none))] w R :=
 fncK (an:={ loops:=[⟨2,[6],[1,2,3,7,8,9,10,11,12,13,14,15,16],[]⟩],muts:=[32,37],all:=true }) (args:=[.a (.c (.loc 0 0))]) (rho:=[v]) (hp:=[(0,40,[.v (.pointer (some ⟨d,0,none⟩))])]) Tryz_ok Tryz.func79 (by kernel_rfl) rfl rfl hk (by simp) (by simpa using block_lt hk) rfl (by simp) h
theorem fBase_vc{v s:Nat}{w:World}{R:Ending→World→Prop}
 (hk:Hb w v #[pointer (some (Addr.mk s 0 none))] 41)
 (h :
 ∃a1,LdA w ((Addr.mk s 0 none).add 0) [pointer a1]∧
 ∀w1,KpL [] w w1→
 Hb w1 v #[pointer (some (Addr.mk s 0 none))] 41→
 CallW Tryz.prog 59 #[pointer (some (Addr.mk s 0 none))] w1 fun e1 w2 =>
 ∃a2 k1 k2,e1=returned (slice a2 k1 k2)∧
 KpL [] w1 w2∧
 (Hb w2 v #[pointer (some (Addr.mk s 0 none))] 41→
 CallW Tryz.prog 52 #[pointer a1,int u8 1,slice a2 k1 k2] w2 fun e2 w3 =>
 ∃n1,e2=returned (int i64 n1)∧
 ∃l1,KpL l1 w2 w3∧
 NotIn v l1∧
 (Hb w3 v #[pointer (some (Addr.mk s 0 none))] 41→
 R (returned (int i64 n1)) w3))):Calls Tryz.prog 81 #[pointer (some (Addr.mk v 0 none))] w R :=
 fncK (an:={ muts:=[52],all:=true }) (args:=[.a (.c (.loc 0 0))]) (rho:=[v]) (hp:=[(0,41,[.v (.pointer (some ⟨s,0,none⟩))])]) Tryz_ok Tryz.func81 (by kernel_rfl) rfl rfl hk (by simp) (by simpa using block_lt hk) rfl (by simp) h
theorem sFormat_vc{d:Nat}{dba:Option Addr}{dbn dbc:Nat}{w:World}{R:Ending→World→Prop}
 (h :
 ∀k1,w.heap.size≤k1→
 ∀w1,KpL [] w w1→
 Hb w1 k1 #[pointer (some (Addr.mk d 0 none))] 40→
 CallW Tryz.prog 62 #[pointer (some (Addr.mk d 0 none))] w1 fun e1 w2 =>
 ∃b1,e1=returned (Value.bool b1)∧
 KpL [] w1 w2∧
 ((!b1)=true→
 Hb w2 k1 #[pointer (some (Addr.mk d 0 none))] 40→
 R (returned (tuple #[pointer none,int i64 1])) w2)∧
 ((!b1)=false→
 Hb w2 k1 #[pointer (some (Addr.mk d 0 none))] 40→
 CallW Tryz.prog 42 #[slice dba dbn dbc] w2 fun e2 w3 =>
 ∃n1,e2=returned (int i64 n1)∧
 KpL [] w2 w3∧
 (¬n1≠0→
 ((↑dbn:Int)=(0:Int)→
 Hb w3 k1 #[pointer (some (Addr.mk d 0 none))] 40→
 R (returned (tuple #[pointer none,int i64 2])) w3)∧
 (¬(↑dbn:Int)=(0:Int)→
 Hb w3 k1 #[pointer (some (Addr.mk d 0 none))] 40→
 ∃b2,LdA w3 ((Addr.mk d 0 none).add 5) [Value.bool b2]∧
 (b2=true→
 Hb w3 k1 #[pointer (some (Addr.mk d 0 none))] 40→
 R (returned (tuple #[pointer none,int i64 17])) w3)∧
 (b2=false→
 Hb w3 k1 #[pointer (some (Addr.mk d 0 none))] 40→
 Ev Tryz.prog (Instr.box 121 (agg #[pointer (some (Addr.mk d 0 none)),int u64 1,int i64 0])) w3 fun y1 w4 =>
 ∃d1,y1=pointer (some d1)∧
 ∃l1,KpL l1 w3 w4∧
 NotIn k1 l1∧
 (Hb w4 k1 #[pointer (some (Addr.mk d 0 none))] 40→
 Ev Tryz.prog (Instr.makeMap 114 none) w4 fun y2 w5 =>
 ∃m1,y2=map m1∧
 ∃l2,KpL l2 w4 w5∧
 NotIn k1 l2∧
 (Hb w5 k1 #[pointer (some (Addr.mk d 0 none))] 40→
 Ev Tryz.prog (Instr.box 116 (agg #[pointer (some d1),int i64 0,slice none 0 0,map m1,slice none 0 0,int i64 0])) w5 fun y3 w6 =>
 ∃d2,y3=pointer (some d2)∧
 ∃l3,KpL l3 w5 w6∧
 NotIn k1 l3∧
 ∀k2,w6.heap.size≤k2→
 ∃(P1:List Value→World→Prop) (P2:List Value→World→Nat),(∀w7,KpL [] w6 w7→
 Hb w7 k2 #[pointer (some d2)] 41∧
 Hb w7 k1 #[pointer (some (Addr.mk d 0 none))] 40→
 P1 [int i64 0] w7)∧
 ∀n2 w8,P1 [int i64 n2] w8→
 (n2<(↑dbn:Int)→
 ∃d3,dba=some d3∧
 0≤n2∧
 n2<(↑dbn:Int)∧
 (Hb w8 k2 #[pointer (some d2)] 41∧
 Hb w8 k1 #[pointer (some (Addr.mk d 0 none))] 40→
 ∃s1 a1 k3 k4 a2 k5 k6 a3 k7 k8,LdA w8 (d3.add (n2.toNat*4)) [string s1,slice a1 k3 k4,slice a2 k5 k6,slice a3 k7 k8]∧
 (Hb w8 k2 #[pointer (some d2)] 41∧
 Hb w8 k1 #[pointer (some (Addr.mk d 0 none))] 40→
 Ev Tryz.prog (Instr.alloc 60 true (tuple #[])) w8 fun y4 w9 =>
 ∃d4,y4=pointer (some d4)∧
 ∃l4,KpL l4 w8 w9∧
 (NotIn k2 l4∧
 NotIn k1 l4)∧
 (Hb w9 k2 #[pointer (some d2)] 41∧
 Hb w9 k1 #[pointer (some (Addr.mk d 0 none))] 40→
 (∃l5,LdA w9 d4 l5∧
 l5.length=4)∧
 NotFrozen w9 d4 4∧
 (NotIn k2 [d4.block]∧
 NotIn k1 [d4.block])∧
 ∀w10,w10=stA w9 d4 [string s1,slice a1 k3 k4,slice a2 k5 k6,slice a3 k7 k8] 0→
 Hb w10 k2 #[pointer (some d2)] 41∧
 Hb w10 k1 #[pointer (some (Addr.mk d 0 none))] 40→
 ∃a4 k9 k10,LdA w10 ((d4.add 1).add 0) [slice a4 k9 k10]∧
 (Hb w10 k2 #[pointer (some d2)] 41∧
 Hb w10 k1 #[pointer (some (Addr.mk d 0 none))] 40→
 ∃a5 k11 k12,LdA w10 ((d4.add 1).add 1) [slice a5 k11 k12]∧
 (Hb w10 k2 #[pointer (some d2)] 41∧
 Hb w10 k1 #[pointer (some (Addr.mk d 0 none))] 40→
 CallW Tryz.prog 69 #[slice a4 k9 k10,slice a5 k11 k12,slice none 0 0] w10 fun e3 w11 =>
 ∃a6 k13 k14 a7 k15 k16 a8 k17 k18 n3,e3=returned (tuple #[agg #[slice a6 k13 k14,slice a7 k15 k16,slice a8 k17 k18],int i64 n3])∧
 KpL [] w10 w11∧
 (Hb w11 k2 #[pointer (some d2)] 41∧
 Hb w11 k1 #[pointer (some (Addr.mk d 0 none))] 40→
 Ev Tryz.prog (Instr.alloc 58 true (tuple #[])) w11 fun y5 w12 =>
 ∃d5,y5=pointer (some d5)∧
 ∃l6,KpL l6 w11 w12∧
 (NotIn k2 l6∧
 NotIn k1 l6)∧
 (Hb w12 k2 #[pointer (some d2)] 41∧
 Hb w12 k1 #[pointer (some (Addr.mk d 0 none))] 40→
 (∃l7,LdA w12 d5 l7∧
 l7.length=3)∧
 NotFrozen w12 d5 3∧
 (NotIn k2 [d5.block]∧
 NotIn k1 [d5.block])∧
 ∀w13,w13=stA w12 d5 [slice a6 k13 k14,slice a7 k15 k16,slice a8 k17 k18] 0→
 (n3≠0→
 Hb w13 k2 #[pointer (some d2)] 41∧
 Hb w13 k1 #[pointer (some (Addr.mk d 0 none))] 40→
 R (returned (tuple #[pointer none,int i64 n3])) w13)∧
 (¬n3≠0→
 ∃a9 k19 k20,LdA w13 (d2.add 2) [slice a9 k19 k20]∧
 ∃s2,LdA w13 (d4.add 0) [string s2]∧
 ∃a10 k21 k22 a11 k23 k24 a12 k25 k26,LdA w13 d5 [slice a10 k21 k22,slice a11 k23 k24,slice a12 k25 k26]∧
 ∀k27,w13.heap.size≤k27→
 ∀w14,KpL [] w13 w14→
 Hb w14 k27 #[string s2,slice a10 k21 k22,slice a11 k23 k24,slice a12 k25 k26] 60∧
 Hb w14 k2 #[pointer (some d2)] 41∧
 Hb w14 k1 #[pointer (some (Addr.mk d 0 none))] 40→
 Ev Tryz.prog (Builtin.append_ #[23,23] 23 #[slice a9 k19 k20,slice (some (Addr.mk k27 0 none)) 1 1]) w14 fun y6 w15 =>
 ∃a13 k28 k29,y6=slice a13 k28 k29∧
 ∃l8,KpL l8 w14 w15∧
 (NotIn k27 l8∧
 NotIn k2 l8∧
 NotIn k1 l8)∧
 (Hb w15 k27 #[string s2,slice a10 k21 k22,slice a11 k23 k24,slice a12 k25 k26] 60∧
 Hb w15 k2 #[pointer (some d2)] 41∧
 Hb w15 k1 #[pointer (some (Addr.mk d 0 none))] 40→
 (LdA w15 (Addr.mk k2 0 none) [pointer (some d2)]∧
 True)∧
 (Hb w15 k27 #[string s2,slice a10 k21 k22,slice a11 k23 k24,slice a12 k25 k26] 60∧
 Hb w15 k2 #[pointer (some d2)] 41∧
 Hb w15 k1 #[pointer (some (Addr.mk d 0 none))] 40→
 (∃l9,LdA w15 (d2.add 2) l9∧
 l9.length=1)∧
 NotFrozen w15 (d2.add 2) 1∧
 (NotIn k27 [d2.block]∧
 NotIn k2 [d2.block]∧
 NotIn k1 [d2.block])∧
 ∀w16,w16=stA w15 (d2.add 2) [slice a13 k28 k29] 0→
 Hb w16 k27 #[string s2,slice a10 k21 k22,slice a11 k23 k24,slice a12 k25 k26] 60∧
 Hb w16 k2 #[pointer (some d2)] 41∧
 Hb w16 k1 #[pointer (some (Addr.mk d 0 none))] 40→
 ∃a14 k30 k31,LdA w16 ((d4.add 1).add 2) [slice a14 k30 k31]∧
 ∃(P3:List Value→World→Prop) (P4:List Value→World→Nat),(Hb w16 k27 #[string s2,slice a10 k21 k22,slice a11 k23 k24,slice a12 k25 k26] 60∧
 Hb w16 k2 #[pointer (some d2)] 41∧
 Hb w16 k1 #[pointer (some (Addr.mk d 0 none))] 40→
 P3 [int i64 0] w16)∧
 ∀n4 w17,P3 [int i64 n4] w17→
 (n4<(↑k30:Int)→
 ∃d6,a14=some d6∧
 0≤n4∧
 n4<(↑k30:Int)∧
 (Hb w17 k27 #[string s2,slice a10 k21 k22,slice a11 k23 k24,slice a12 k25 k26] 60∧
 Hb w17 k2 #[pointer (some d2)] 41∧
 Hb w17 k1 #[pointer (some (Addr.mk d 0 none))] 40→
 ∃a15 k32 k33 a16 k34 k35,LdA w17 (d6.add (n4.toNat*2)) [slice a15 k32 k33,slice a16 k34 k35]∧
 ∀k36,w17.heap.size≤k36→
 ∃m2,LdA w17 (d2.add 3) [map m2]∧
 ∀w18,KpL [] w17 w18→
 Hb w18 k36 #[slice a15 k32 k33,slice a16 k34 k35] 147∧
 Hb w18 k27 #[string s2,slice a10 k21 k22,slice a11 k23 k24,slice a12 k25 k26] 60∧
 Hb w18 k2 #[pointer (some d2)] 41∧
 Hb w18 k1 #[pointer (some (Addr.mk d 0 none))] 40→
 CallW Tryz.prog 78 #[int i64 n2,slice a15 k32 k33] w18 fun e4 w19 =>
 ∃n5 n6 n7 n8 n9,e4=returned (agg #[int i64 n5,int i64 n6,int i64 n7,int i64 n8,int i64 n9])∧
 KpL [] w18 w19∧
 (Hb w19 k36 #[slice a15 k32 k33,slice a16 k34 k35] 147∧
 Hb w19 k27 #[string s2,slice a10 k21 k22,slice a11 k23 k24,slice a12 k25 k26] 60∧
 Hb w19 k2 #[pointer (some d2)] 41∧
 Hb w19 k1 #[pointer (some (Addr.mk d 0 none))] 40→
 CallW Tryz.prog 77 #[slice a16 k34 k35] w19 fun e5 w20 =>
 ∃a17 k37 k38,e5=returned (slice a17 k37 k38)∧
 KpL [] w19 w20∧
 (Hb w20 k36 #[slice a15 k32 k33,slice a16 k34 k35] 147∧
 Hb w20 k27 #[string s2,slice a10 k21 k22,slice a11 k23 k24,slice a12 k25 k26] 60∧
 Hb w20 k2 #[pointer (some d2)] 41∧
 Hb w20 k1 #[pointer (some (Addr.mk d 0 none))] 40→
 Ev Tryz.prog (do
 Instr.mapUpdate 114 (map m2) (agg #[int i64 n5,int i64 n6,int i64 n7,int i64 n8,int i64 n9]) (agg #[int i64 0,slice a17 k37 k38])
 pure undef) w20 fun y7 w21 =>
 y7=tuple #[]∧
 ∃l10,KpL l10 w20 w21∧
 (NotIn k36 l10∧
 NotIn k27 l10∧
 NotIn k2 l10∧
 NotIn k1 l10)∧
 InI i64 (n4+1)∧
 (Hb w21 k36 #[slice a15 k32 k33,slice a16 k34 k35] 147∧
 Hb w21 k27 #[string s2,slice a10 k21 k22,slice a11 k23 k24,slice a12 k25 k26] 60∧
 Hb w21 k2 #[pointer (some d2)] 41∧
 Hb w21 k1 #[pointer (some (Addr.mk d 0 none))] 40→
 P3 [int i64 (n4+1)] w21∧
 P4 [int i64 (n4+1)] w21<P4 [int i64 n4] w17)))))∧
 (¬n4<(↑k30:Int)→
 InI i64 (n2+1)∧
 (Hb w17 k27 #[string s2,slice a10 k21 k22,slice a11 k23 k24,slice a12 k25 k26] 60∧
 Hb w17 k2 #[pointer (some d2)] 41∧
 Hb w17 k1 #[pointer (some (Addr.mk d 0 none))] 40→
 P1 [int i64 (n2+1)] w17∧
 P2 [int i64 (n2+1)] w17<P2 [int i64 n2] w8)))))))))))))∧
 (¬n2<(↑dbn:Int)→
 ∀w22,KpL [] w8 w22→
 Hb w22 k2 #[pointer (some d2)] 41∧
 Hb w22 k1 #[pointer (some (Addr.mk d 0 none))] 40→
 CallW Tryz.prog 61 #[pointer (some d2)] w22 fun e6 w23 =>
 ∃n10,e6=returned (int i64 n10)∧
 KpL [] w22 w23∧
 (Hb w23 k2 #[pointer (some d2)] 41∧
 Hb w23 k1 #[pointer (some (Addr.mk d 0 none))] 40→
 (∃l11,LdA w23 (d2.add 5) l11∧
 l11.length=1)∧
 NotFrozen w23 (d2.add 5) 1∧
 (NotIn k2 [d2.block]∧
 NotIn k1 [d2.block])∧
 ∀w24,w24=stA w23 (d2.add 5) [int i64 n10] 0→
 ∃n11,LdA w24 (d2.add 5) [int i64 n11]∧
 ∀w25,KpL [] w24 w25→
 Hb w25 k2 #[pointer (some d2)] 41∧
 Hb w25 k1 #[pointer (some (Addr.mk d 0 none))] 40→
 CallW Tryz.prog 50 #[pointer (some (Addr.mk d 0 none))] w25 fun e7 w26 =>
 ∃n12,e7=returned (int i64 n12)∧
 KpL [] w25 w26∧
 (n12<n11→
 Hb w26 k2 #[pointer (some d2)] 41∧
 Hb w26 k1 #[pointer (some (Addr.mk d 0 none))] 40→
 R (returned (tuple #[pointer none,int i64 18])) w26)∧
 (¬n12<n11→
 Hb w26 k2 #[pointer (some d2)] 41∧
 Hb w26 k1 #[pointer (some (Addr.mk d 0 none))] 40→
 ∃a18,LdA w26 (d2.add 0) [pointer a18]∧
 ∀k39,w26.heap.size≤k39→
 ∀w27,KpL [] w26 w27→
 Hb w27 k39 #[func (Fn.func 79) #[] #[pointer (some (Addr.mk k1 0 none))],func (Fn.func 81) #[] #[pointer (some (Addr.mk k2 0 none))],func (Fn.func 60) #[pointer a18] #[]] 49∧
 Hb w27 k2 #[pointer (some d2)] 41∧
 Hb w27 k1 #[pointer (some (Addr.mk d 0 none))] 40→
 CallW Tryz.prog 55 #[slice (some (Addr.mk k39 0 none)) 3 3] w27 fun e8 w28 =>
 ∃n13,e8=returned (int i64 n13)∧
 ∃l12,KpL l12 w27 w28∧
 (NotIn k2 l12∧
 NotIn k1 l12)∧
 (n13≠0→
 Hb w28 k2 #[pointer (some d2)] 41∧
 Hb w28 k1 #[pointer (some (Addr.mk d 0 none))] 40→
 R (returned (tuple #[pointer none,int i64 n13])) w28)∧
 (¬n13≠0→
 Hb w28 k2 #[pointer (some d2)] 41∧
 Hb w28 k1 #[pointer (some (Addr.mk d 0 none))] 40→
 CallW Tryz.prog 67 #[pointer (some d2)] w28 fun e9 w29 =>
 ∃a19,e9=returned (pointer a19)∧
 ∃l13,KpL l13 w28 w29∧
 (NotIn k2 l13∧
 NotIn k1 l13)∧
 (Hb w29 k2 #[pointer (some d2)] 41∧
 Hb w29 k1 #[pointer (some (Addr.mk d 0 none))] 40→
 R (returned (tuple #[pointer a19,int i64 0])) w29))))))))))∧
 (n1≠0→
 Hb w3 k1 #[pointer (some (Addr.mk d 0 none))] 40→
 R (returned (tuple #[pointer none,int i64 2])) w3))):Calls Tryz.prog 20 #[pointer (some (Addr.mk d 0 none)),slice dba dbn dbc] w R :=
 fnc0 (an:={ loops:=[⟨16,[75],[12,76,77,78,79,80,81,82,83,84,85,86,87,88,89,90,91],[]⟩,⟨9,[40],[4,5,7,8,9,10,12,41,42,43,44,45,46,47,48,49,50,51,52,53,54,55,56,57,58,59,60,61,62,63,64,65,66,67,68,69,70,71,72,73,74,75,76,77,78,79,80,81,82,83,84,85,86,87,88,89,90,91,92],[]⟩],muts:=[55,67],all:=true,lim:=2 }) (args:=[.a (.c (.v (.pointer (some ⟨d,0,none⟩)))),.a (.c (.v (.slice dba dbn dbc)))]) Tryz_ok Tryz.func20 (by kernel_rfl) rfl rfl h
end Go.Vc
namespace Go.Vc
open Go Go.Proofs
theorem StoV.stoOk{st:Sto}(h:StoV st){ps:List (Pl×Sta)}(hp:ps.Perm st.places):StoOk st.arrays st.batches ps:=by
 have h1:=h.an
 have h2:=h.bn
 have h3:=h.pn
 have h4:=hp.length_eq
 refine⟨by omega,fun x hx=>?_,by omega,fun x hx=>?_,by omega,fun p hpm=>?_⟩
 ·have a:=sch_dims (h.sch x hx)
  have b:=dims_14 a.1
  have c:=nameOk_12 (h.nms x hx)
  refine⟨by omega,by omega,by omega,fun d hd=>?_,fun a' ha=>?_⟩
  ·have:=nameOk_12 (dims_in a.1 d hd).1;omega
  ·have:=nameOk_12 (sch_attrs (h.sch x hx) a' ha).1;omega
 ·have:=nameOk_12 (h.bat x hx).1;omega
 ·have hpo:=h.pls p (hp.mem_iff.1 hpm)
  obtain⟨g1,g2,g3,g4,g5,g6,g7,g8⟩:=hpo.dims h.sch
  have:=hpo.a0
  have:=encVs_len g8 g7
  exact⟨by omega,by omega,by omega⟩
structure CmpR where
 e:Int
 st:Sto
 k:Dk
 num:Int
 nxt:Nat
def Sto.cmp(st:Sto)(k:Dk)(num:Int)(nxt:Nat)(ps:List (Pl×Sta)):CmpR :=
 if readyE st k≠0 then ⟨readyE st k,st,k,num,nxt⟩
 else if (k.clear (num+1) 0).1≠0 then ⟨(k.clear (num+1) 0).1,{ st with id:=-1 },(k.clear (num+1) 0).2,num,nxt⟩
 else if ((k.clear (num+1) 0).2.add (num+1) 0 1 (encBase st.arrays st.batches ps)).1≠0 then ⟨((k.clear (num+1) 0).2.add (num+1) 0 1 (encBase st.arrays st.batches ps)).1,{ st with id:=-1 },((k.clear (num+1) 0).2.add (num+1) 0 1 (encBase st.arrays st.batches ps)).2,num,nxt⟩
 else if (((k.clear (num+1) 0).2.add (num+1) 0 1 (encBase st.arrays st.batches ps)).2.note (num+1)).1≠0 then ⟨(((k.clear (num+1) 0).2.add (num+1) 0 1 (encBase st.arrays st.batches ps)).2.note (num+1)).1,{ st with id:=-1 },(((k.clear (num+1) 0).2.add (num+1) 0 1 (encBase st.arrays st.batches ps)).2.note (num+1)).2,num,nxt⟩
 else ⟨0,{ st with use:=1+8*st.arrays.length+3*st.places.length+st.batches.length },(((k.clear (num+1) 0).2.add (num+1) 0 1 (encBase st.arrays st.batches ps)).2.note (num+1)).2,num+1,0+1+secsOf (encBase st.arrays st.batches ps)⟩
def CmpTail(s k1 kv l3:Nat)(wB:World)(Q:Ending→World→Prop)(e2:Ending)(w6:World):Prop :=
 ∃n3:Int,e2=.returned (.int .i64 n3)∧∃l2,KpL l2 wB w6∧(NotIn kv l2∧NotIn k1 l2)∧
  (n3≠0→(w6.heap[kv]?=some (.cells #[.pointer (some ⟨l3,0,none⟩)] 113 (0,0))∧w6.heap[k1]?=some (.cells #[.pointer (some ⟨s,0,none⟩)] 41 (0,0)))→
    CallW Tryz.prog 51 #[.pointer (some ⟨s,0,none⟩),.int .i64 n3] w6 fun e3 w7=>∃n4:Int,e3=.returned (.int .i64 n4)∧∃l3',KpL l3' w6 w7∧(NotIn kv l3'∧NotIn k1 l3')∧
     ((w7.heap[kv]?=some (.cells #[.pointer (some ⟨l3,0,none⟩)] 113 (0,0))∧w7.heap[k1]?=some (.cells #[.pointer (some ⟨s,0,none⟩)] 41 (0,0)))→Q (.returned (.int .i64 n4)) w7))∧
  (¬n3≠0→∀w8,KpL [] w6 w8→(w8.heap[kv]?=some (.cells #[.pointer (some ⟨l3,0,none⟩)] 113 (0,0))∧w8.heap[k1]?=some (.cells #[.pointer (some ⟨s,0,none⟩)] 41 (0,0)))→
    CallW Tryz.prog 61 #[.pointer (some ⟨s,0,none⟩)] w8 fun e4 w9=>∃n5:Int,e4=.returned (.int .i64 n5)∧KpL [] w8 w9∧
     ((w9.heap[kv]?=some (.cells #[.pointer (some ⟨l3,0,none⟩)] 113 (0,0))∧w9.heap[k1]?=some (.cells #[.pointer (some ⟨s,0,none⟩)] 41 (0,0)))→
       (∃l4,LdA w9 ((⟨s,0,none⟩:Addr).add 0) l4∧l4.length=1)∧NotFrozen w9 ((⟨s,0,none⟩:Addr).add 0) 1∧(NotIn kv [s]∧NotIn k1 [s])∧
       ∀w10,w10=stA w9 ((⟨s,0,none⟩:Addr).add 0) [.pointer (some ⟨l3,0,none⟩)] 0→
        (w10.heap[kv]?=some (.cells #[.pointer (some ⟨l3,0,none⟩)] 113 (0,0))∧w10.heap[k1]?=some (.cells #[.pointer (some ⟨s,0,none⟩)] 41 (0,0)))→
        (LdA w10 ⟨k1,0,none⟩ [.pointer (some ⟨s,0,none⟩)]∧True)∧
        ((w10.heap[kv]?=some (.cells #[.pointer (some ⟨l3,0,none⟩)] 113 (0,0))∧w10.heap[k1]?=some (.cells #[.pointer (some ⟨s,0,none⟩)] 41 (0,0)))→
          (∃l5,LdA w10 ((⟨s,0,none⟩:Addr).add 5) l5∧l5.length=1)∧NotFrozen w10 ((⟨s,0,none⟩:Addr).add 5) 1∧(NotIn kv [s]∧NotIn k1 [s])∧
          ∀w11,w11=stA w10 ((⟨s,0,none⟩:Addr).add 5) [.int .i64 n5] 0→
           (w11.heap[kv]?=some (.cells #[.pointer (some ⟨l3,0,none⟩)] 113 (0,0))∧w11.heap[k1]?=some (.cells #[.pointer (some ⟨s,0,none⟩)] 41 (0,0)))→Q (.returned (.int .i64 0)) w11)))
theorem SysAt.newLog{M F Fd Fd':List Nat}{w w':World}{s l d l3:Nat}{num:Int}{nxt:Nat}{st:Sto}{k k':Dk}(h:SysAt M w s l d num nxt st k F Fd)(hl3:w.heap.size≤l3)(hD:DkAt (l3::(F++M)) w' d k' Fd')(hO:Own (l3::Fd) w (l3::Fd') w')(hl3l:l3<w'.heap.size):SysAt (l3::M) w' s l d num nxt st k' F Fd':=by
 have hkp:KpL Fd w w':=(KpL.refl Fd w).more (hO.kp) fun b hb=>(List.mem_cons.1 hb).elim (fun h=>.inr (by omega)) .inl
 refine⟨h.sto.step hkp (fun b hb=>by simp[hb]) fun b hb=>?_,hD.weak fun b hb=>by simp at hb ⊢;rcases hb with hb|rfl|hb<;>simp[*]⟩
 rcases List.mem_append.1 hb with hb|hb
 ·refine⟨?_,(hD.own_lt b hb).1⟩
  rcases hO.new b (by simp[hb]) with hb'|hb'
  ·rcases List.mem_cons.1 hb' with rfl|hb'
   ·exact .inr hl3
   ·exact .inl (by simp[hb'])
  ·exact .inr hb'
 ·rcases List.mem_cons.1 hb with rfl|hb
  ·exact⟨.inr hl3,hl3l⟩
  ·exact⟨.inl (by simp[hb]),hD.mlt b (by simp[hb])⟩
theorem SysAt.weak{M M' F Fd:List Nat}{w:World}{s l d:Nat}{num:Int}{nxt:Nat}{st:Sto}{k:Dk}(h:SysAt M w s l d num nxt st k F Fd)(hs:∀b∈M',b∈M):SysAt M' w s l d num nxt st k F Fd :=
 h.step (KpL.refl [] w) (by simp) fun b hb=>⟨.inl (hs b hb),h.mlt b (hs b hb)⟩
theorem Dk.add_n(k:Dk)(num:Int)(nxt:Nat)(q:Int)(b:List Int):(k.add num nxt q b).2.n=k.n:=by
 unfold Dk.add
 split
 ·exact Dk.add1L_n _ _ _ _ _
 ·split
  ·exact(Dk.write_n _ _ _).trans (Dk.add1L_n _ _ _ _ _)
  ·exact(Dk.sync_n _).trans ((Dk.write_n _ _ _).trans (Dk.add1L_n _ _ _ _ _))
set_option maxHeartbeats 4000000 in
theorem cmpCore{M F Fd:List Nat}{w:World}{s l d l3 k1 kv kf:Nat}{num:Int}{nxt:Nat}{st:Sto}{k:Dk}(h:SysAt M w s l d num nxt st k F Fd)(hv:StoV st)(hrd:¬readyE st k≠0)(h2:2≤k.n)(hnum:0≤num)
 (hpl:k.pend.length≤900000)(hA:∀ps',ps'.Perm st.places→(k.clear (num+1) 0).1=0→AddOk (k.clear (num+1) 0).2 (num+1) 0 1 (encBase st.arrays st.batches ps'))
 (hT:∀ps',ps'.Perm st.places→(k.clear (num+1) 0).1=0→((k.clear (num+1) 0).2.add (num+1) 0 1 (encBase st.arrays st.batches ps')).1=0→((k.clear (num+1) 0).2.add (num+1) 0 1 (encBase st.arrays st.batches ps')).2.pend.length≤1000000)
 {wB:World}(hk:KpL [] w wB)(hl3:LogAt wB l3 d (num+1) (0:Nat))(hl3n:w.heap.size≤l3)(hf:wB.heap[kf]?=some (.cells #[.func (.func 56) #[] #[.pointer (some ⟨kv,0,none⟩)],.func (.func 58) #[] #[.pointer (some ⟨kv,0,none⟩),.pointer (some ⟨k1,0,none⟩)],.func (.func 60) #[.pointer (some ⟨l3,0,none⟩)] #[]] 49 (0,0)))
 (hkv:wB.heap[kv]?=some (.cells #[.pointer (some ⟨l3,0,none⟩)] 113 (0,0)))(hk1:wB.heap[k1]?=some (.cells #[.pointer (some ⟨s,0,none⟩)] 41 (0,0)))(hkvn:w.heap.size≤kv)(hkfn:w.heap.size≤kf)(hk1n:w.heap.size≤k1){Q:Ending→World→Prop}
 (hQ:∀w' ps',ps'.Perm st.places→∀l' F' Fd',SysAt M w' s l' d (st.cmp k num nxt ps').num (st.cmp k num nxt ps').nxt (st.cmp k num nxt ps').st (st.cmp k num nxt ps').k F' Fd'→Own (F++Fd) w (F'++Fd') w'→Q (.returned (.int .i64 (st.cmp k num nxt ps').e)) w'):
 Calls Tryz.prog 55 #[.slice (some ⟨kf,0,none⟩) 3 3] wB (CmpTail s k1 kv l3 wB Q):=by
 have hne:kv≠l3∧k1≠l3∧kf≠l3∧kv≠k1:=by
  have e:=hl3
  unfold LogAt at e
  refine⟨?_,?_,?_,?_⟩<;>rintro rfl
  ·rw[hkv]at e;simp at e
  ·rw[hk1]at e;simp at e
  ·rw[hf]at e;simp at e
  ·rw[hkv]at hk1;simp at hk1
 obtain⟨hvl,h1l,hfl,hv1⟩:=hne
 have hB:=h.kp0 hk
 have sB:=hk.size
 have hFl:=h.own_lt
 have hl3l:=block_lt hl3
 have hn:∀x,w.heap.size≤x→x∉F++Fd:=fun x hx hm=>by have:=(hFl x hm).1;omega
 have hX:∀x∈[kf,kv,k1,l3],w.heap.size≤x∧x<wB.heap.size:=by
  intro x hx
  have:=block_lt hf
  have:=block_lt hkv
  have:=block_lt hk1
  simp only[List.mem_cons,List.not_mem_nil,or_false]at hx
  rcases hx with rfl|rfl|rfl|rfl<;>omega
 have hD0:DkAt ([kf,kv,k1,l3]++(F++M)) wB d k Fd:=h.dk.step hk (by simp) fun b hb=>by
  rcases List.mem_append.1 hb with hb|hb
  ·exact⟨.inr (hX b hb).1,(hX b hb).2⟩
  ·exact⟨.inl hb,by have:=h.dk.mlt b hb;omega⟩
 generalize hXX:[kf,kv,k1,l3]++(F++M)=X at *
 have hmX:∀x∈[kf,kv,k1,l3],x∈X:=fun x hx=>by rw[←hXX];exact List.mem_append_left _ hx
 have mf:kf∈X:=hmX _ (by simp)
 have mv:kv∈X:=hmX _ (by simp)
 have m1:k1∈X:=hmX _ (by simp)
 have ml:l3∈X:=hmX _ (by simp)
 have sysOf:∀{w':World} {k':Dk} {Fd':List Nat},DkAt X w' d k' Fd'→Own (l3::Fd) wB (l3::Fd') w'→SysAt (l3::M) w' s l d num nxt st k' F Fd':=by
  intro w' k' Fd' hD hO
  refine h.newLog hl3n (hD.weak fun b hb=>by rw[←hXX];simp at hb ⊢;rcases hb with rfl|hb|hb<;>simp[*]) ⟨(KpL.refl _ _ |>.trans (hk.mono (by simp))).trans hO.kp,fun b hb=>(hO.new b hb).imp id fun h=>by omega⟩ (by have:=hO.kp.size;omega)
 refine(all_ok (b:=kf) (fs:=[(56,#[],#[.pointer (some ⟨kv,0,none⟩)]),(58,#[],#[.pointer (some ⟨kv,0,none⟩),.pointer (some ⟨k1,0,none⟩)]),(60,#[.pointer (some ⟨l3,0,none⟩)],#[])]) (T:=49) hf (by simp) (c:=3)
  (R:=fun e w'=>∃(n:Int) (ps':List (Pl×Sta)),e=.returned (.int .i64 n)∧ps'.Perm st.places∧∃Fd' k' nxt',DkAt X w' d k' Fd'∧Own (l3::Fd) wB (l3::Fd') w'∧LogAt w' l3 d (num+1) (nxt':Nat)∧(n≠0→st.cmp k num nxt ps'=⟨n,{ st with id:=-1 },k',num,nxt⟩)∧
    (n=0→st.cmp k num nxt ps'=⟨0,{ st with use:=1+8*st.arrays.length+3*st.places.length+st.batches.length },k',num+1,nxt'⟩)) ?_).mono ?_
 ·have own3:∀{wa wb:World} {Fa Fb:List Nat},Own Fa wa Fb wb→Own (l3::Fa) wa (l3::Fb) wb:=fun ho=>⟨ho.kp.mono (by intro x hx;simp[hx]),fun x hx=>(List.mem_cons.1 hx).elim (fun h=>.inl (by simp[h])) fun hx=>(ho.new x hx).imp (fun h=>by simp[h]) id⟩
  refine⟨⟨_,_,Tryz.func56,rfl⟩,⟨cClear_vc hkv fun _=>⟨(lClear_ok hD0 hl3 ml h2 (by omega) (i0:=0) (by omega) (by omega)).mono ?_⟩⟩⟩
  rintro e w1 ⟨rfl,Fd1,hD1,hO1⟩
  have hl31:LogAt w1 l3 d (num+1) (0:Nat):=hl3.keep hO1.kp (hD0.out ml).no
  refine⟨_,rfl,_,hO1.kp,hD0.out mv,fun hkv1=>⟨_,_,rfl,hO1.kp,hD0.out mf,fun hne=>?_,fun hz=>?_⟩⟩
  ·exact⟨_,st.places,rfl,List.Perm.refl _,Fd1,_,0,hD1,own3 hO1,hl31,fun _=>by unfold Sto.cmp;rw[if_neg hrd,if_pos hne],fun hc=>absurd hc hne⟩
  have hk11:w1.heap[k1]?=_:=(hO1.kp.blk k1 (block_lt hk1) (hD0.out m1).no).trans hk1
  have hS1:=sysOf hD1 (own3 hO1)
  refine⟨⟨_,_,Tryz.func58,rfl⟩,⟨cBase_vc ⟨hkv1,hk11⟩ (by simp[hv1]) (by simp;exact⟨block_lt hkv1,block_lt hk11⟩) fun w2 hw2 hkn2=>⟨(sBase_ok (N:=l3::Fd1) (fun x hx=>?_) ((hS1.kp0 hw2).sto.weak (by simp)) (hv.stoOk (List.Perm.refl _))).mono ?_⟩⟩⟩
  ·have:=hw2.size
   rcases List.mem_cons.1 hx with rfl|hx
   ·have:=block_lt hl31;omega
   ·have:=(hD1.own_lt x hx).1;omega
  rintro e w3 ⟨ps',hperm,hsorted,a,n,c,rfl,hV⟩
  have hk13:KpL [] w1 w3:=hw2.trans hV.kpn
  have ho:=hA ps' hperm hz
  have hlen:=hV.acc.len
  have hlb:(encBase st.arrays st.batches ps').length≤1000000:=by
   have h1:=ho.fit
   have h2:=(k.clear (num+1) 0).2.half_le
   obtain⟨ss,hs1,hs2,hs3⟩:=hD1.ok.secs
   unfold secsOf at h1
   omega
  have hRb:=hV.acc.done (by have:maxSl=140737488355328:=rfl;omega)
  refine⟨_,_,_,rfl,hV.kpn,fun hkn3=>⟨(lAdd_ok (hD1.kp0 hk13) (hl31.keep hk13 (by simp)) ml hRb (ini_u8.2 (by omega)) ho.n2 (by omega) ho.fit ho.pl ho.ps ho.ps2).mono ?_⟩⟩
  rintro e w4 ⟨rfl,Fd2,hD2,hO2,hl32⟩
  have hO02:Own (l3::Fd) wB (l3::Fd2) w4:=((own3 hO1).kp0 hk13).trans hO2
  have nin:∀x∈X,x≠l3→NotIn x (l3::Fd1):=fun x hx hne=>⟨fun hm=>(List.mem_cons.1 hm).elim hne (hD1.out hx).no⟩
  refine⟨_,rfl,_,hO2.kp,⟨nin kv mv hvl,nin k1 m1 h1l⟩,fun hkn4=>⟨_,_,rfl,(hk13.mono (by simp)).trans hO2.kp,nin kf mf hfl,fun hne=>?_,fun hz2=>?_⟩⟩
  ·rw[if_neg hne]at hl32
   exact⟨_,ps',rfl,hperm,Fd2,_,0,hD2,hO02,hl32,fun _=>by unfold Sto.cmp;rw[if_neg hrd,if_neg (by simp[hz]),if_pos hne],fun hc=>absurd hc hne⟩
  rw[if_pos hz2]at hl32
  refine⟨⟨_,_,Tryz.func60,rfl⟩,⟨(lNote_ok hD2 hl32 ml (by have:=hD2.ok.secs;have:=ho.n2;rw[Dk.add_n];omega) (by omega) (hT ps' hperm hz hz2)).mono ?_⟩⟩
  rintro e w5 ⟨rfl,Fd3,hD3,hO3⟩
  have hl33:=hl32.keep hO3.kp (hD2.out ml).no
  refine⟨_,_,rfl,hO3.kp,hD2.out mf,fun hne=>?_,fun hz3=>?_⟩
  ·exact⟨_,ps',rfl,hperm,Fd3,_,_,hD3,hO02.trans (own3 hO3),hl33,fun _=>by unfold Sto.cmp;rw[if_neg hrd,if_neg (by simp[hz]),if_neg (by simp[hz2]),if_pos hne],fun hc=>absurd hc hne⟩
  ·exact⟨0,ps',rfl,hperm,Fd3,_,_,hD3,hO02.trans (own3 hO3),hl33,fun hc=>absurd rfl hc,fun _=>by unfold Sto.cmp;rw[if_neg hrd,if_neg (by simp[hz]),if_neg (by simp[hz2]),if_neg (by simp[hz3])]⟩
 ·rintro e w6 ⟨n,ps',rfl,hperm,Fd',k',nxt',hD6,hO6,hl36,hne6,hz6⟩
  have hS6:=sysOf hD6 hO6
  have nin:∀x∈X,x≠l3→NotIn x (l3::Fd):=fun x hx hne=>⟨fun hm=>(List.mem_cons.1 hm).elim hne (hD0.out hx).no⟩
  have ninF:∀x∈[kf,kv,k1,l3],x∉F:=fun x hx hm=>by have:=(hFl x (List.mem_append_left _ hm)).1;have:=(hX x hx).1;omega
  have hOw:Own (F++Fd) w (F++Fd') w6:=by
   refine⟨(KpL.refl _ _ |>.trans (hk.mono (by simp))).more (hO6.kp) fun b hb=>?_,fun b hb=>?_⟩
   ·rcases List.mem_cons.1 hb with rfl|hb
    ·exact .inr hl3n
    ·exact .inl (by simp[hb])
   ·rcases List.mem_append.1 hb with hb|hb
    ·exact .inl (by simp[hb])
    ·rcases hO6.new b (by simp[hb]) with hb'|hb'
     ·rcases List.mem_cons.1 hb' with rfl|hb'
      ·exact .inr hl3n
      ·exact .inl (by simp[hb'])
     ·exact .inr (by omega)
  refine⟨n,rfl,_,hO6.kp,⟨nin kv mv hvl,nin k1 m1 h1l⟩,fun hne hkn6=>⟨(lost_ok hS6.sto n).mono ?_⟩,fun hz w8 hw8 hkn8=>?_⟩
  ·rintro e w7 ⟨rfl,hS7,hO7⟩
   rw[if_pos hne]at hS7
   obtain⟨h7,hO7'⟩:=hS6.stoTo hS7 hO7
   refine⟨_,rfl,_,hO7.kp,⟨⟨ninF kv (by simp)⟩,⟨ninF k1 (by simp)⟩⟩,fun _=>?_⟩
   have:=hQ w7 ps' hperm l F Fd'
   rw[hne6 hne]at this
   exact this (h7.weak (by simp;intro a ha;simp[ha])) (hOw.trans hO7')
  have hz':=Classical.not_not.1 hz
  have h8:=hS6.kp0 hw8
  refine⟨(compacted_ok h8.sto (by have:=hv.an;omega) (by have:=hv.pn;omega) (by have:=hv.bn;omega)).mono ?_⟩
  rintro e w9 ⟨rfl,hw9⟩
  have h9:=h8.kp0 hw9
  obtain⟨m,ra,rn,rc,qa,qn,qc,hI,hl9,rfl⟩:=h9.sto
  have hsF:s∈s::l::m::blkL qa:=by simp
  have nins:NotIn kv [s]∧NotIn k1 [s]:=⟨⟨fun hm=>ninF kv (by simp) (by simp at hm;simp[hm])⟩,⟨fun hm=>ninF k1 (by simp) (by simp at hm;simp[hm])⟩⟩
  have hk10:KpL [s] w9 (stA w9 ((⟨s,0,none⟩:Addr).add 0) [.pointer (some ⟨l3,0,none⟩)] 0):=by rw[add_lit];exact stA_kp w9 ⟨s,0+0,none⟩ _
  have hs10:SC (stA w9 ((⟨s,0,none⟩:Addr).add 0) [.pointer (some ⟨l3,0,none⟩)] 0) s l3 st.id ra rn rc (some m) qa qn qc st.use:=by rw[add_lit];exact stA_ld (off:=0) (l:=[_]) hI.hs (by simp)
  refine⟨_,rfl,hw9,fun hkn9=>⟨⟨_,by rw[add_lit];exact ldA_blk hI.hs 0 [_] rfl,rfl⟩,by rw[add_lit];exact notFrozen hI.hs,nins,?_⟩⟩
  rintro w10 rfl hkn10
  refine⟨⟨ldA_blk hkn10.2 0 [_] rfl,trivial⟩,fun _=>⟨⟨_,hs10.ld5,rfl⟩,hs10.nf 5,nins,?_⟩⟩
  rintro w11 rfl _
  have hk11:=hs10.kpS 5 (.int .i64 (1+8*(st.arrays.length:Int)+3*st.places.length+st.batches.length))
  have hs11:=hs10.set5 (1+8*(st.arrays.length:Int)+3*st.places.length+st.batches.length)
  have hk911:=hk10.trans hk11
  generalize hw11:stA (stA w9 ((⟨s,0,none⟩:Addr).add 0) [.pointer (some ⟨l3,0,none⟩)] 0) ((⟨s,0,none⟩:Addr).add 5) [.int .i64 (1+8*(st.arrays.length:Int)+3*st.places.length+st.batches.length)] 0=w11 at *
  have hk611:KpL [s] w6 w11:=((hw8.trans hw9).mono (by simp)).trans hk911
  have hl3n':l3∉s::l::m::blkL qa:=ninF l3 (by simp)
  have hl11:LogAt w11 l3 d (num+1) (nxt':Nat):=hl36.keep hk611 (by simp;rintro rfl;exact hl3n' (by simp))
  have s11:=hk611.size
  have hl3D:l3∉Fd'++M:=fun hm=>by
   rcases List.mem_append.1 hm with hm|hm
   ·exact(hD6.out ml).no hm
   ·have:=h.mlt l3 hm;omega
  have hq:=hQ w11 ps' hperm l3 (s::l3::m::blkL qa) Fd'
  rw[hz6 hz']at hq
  have hl36l:=block_lt hl36
  have hll9:=block_lt hl9
  have hm:=hI.pls.mM
  refine hq ⟨⟨m,ra,rn,rc,qa,qn,qc,⟨hs11,?_,?_,?_,fun e=>hl3n' (by simp[e]),fun hm=>hI.sM (by simp at hm ⊢;rcases hm with hm|hm<;>simp[hm]),hl3D,hI.idI,ini_i64.2 ?_,hI.keys⟩,hl11,rfl⟩,?_⟩ ?_
  ·exact(hI.arr.kp hk911 (by simp)).weak fun b hb=>by simp at hb ⊢;rcases hb with hb|hb|hb|hb|hb|hb<;>simp[hb]
  ·exact hI.pls.step hk911 (by simp) fun b hb=>.inl (by simp at hb ⊢;rcases hb with hb|hb|hb|hb|hb<;>simp[hb])
  ·exact(hI.bat.kp hk911 (by simp)).weak fun b hb=>by simp at hb ⊢;rcases hb with hb|hb|hb|hb|hb<;>simp[hb]
  ·have:=hv.an;have:=hv.pn;have:=hv.bn;simp only;omega
  ·refine hD6.step hk611 (by rw[←hXX];simp) fun b hb=>?_
   have hbX:b∈X:=by rw[←hXX];simp at hb ⊢;rcases hb with hb|hb|hb|hb|hb<;>simp[hb]
   exact⟨.inl hbX,by have:=hD6.mlt b hbX;omega⟩
  ·refine⟨hOw.kp.trans (hk611.mono (by simp)),fun b hb=>?_⟩
   rcases List.mem_append.1 hb with hb|hb
   ·simp only[List.mem_cons]at hb
    rcases hb with rfl|rfl|rfl|hb
    ·exact .inl (by simp)
    ·exact .inr hl3n
    ·exact .inl (by simp)
    ·exact .inl (by simp[hb])
   ·exact hOw.new b (by simp[hb])
end Go.Vc
namespace Go.Vc
open Go Go.Proofs
set_option maxHeartbeats 4000000 in
theorem sCompact_ok{M F Fd:List Nat}{w:World}{s l d:Nat}{num:Int}{nxt:Nat}{st:Sto}{k:Dk}(h:SysAt M w s l d num nxt st k F Fd)(hv:StoV st)(h2:2≤k.n)(hnum:0≤num)(hnum2:num≤1000000)
 (hpl:k.pend.length≤900000)(hA:∀ps',ps'.Perm st.places→(k.clear (num+1) 0).1=0→AddOk (k.clear (num+1) 0).2 (num+1) 0 1 (encBase st.arrays st.batches ps'))
 (hT:∀ps',ps'.Perm st.places→(k.clear (num+1) 0).1=0→((k.clear (num+1) 0).2.add (num+1) 0 1 (encBase st.arrays st.batches ps')).1=0→((k.clear (num+1) 0).2.add (num+1) 0 1 (encBase st.arrays st.batches ps')).2.pend.length≤1000000):
 Calls Tryz.prog 14 #[.pointer (some ⟨s,0,none⟩)] w fun e w'=>∃ps',ps'.Perm st.places∧e=.returned (.int .i64 (st.cmp k num nxt ps').e)∧
  ∃l' F' Fd',SysAt M w' s l' d (st.cmp k num nxt ps').num (st.cmp k num nxt ps').nxt (st.cmp k num nxt ps').st (st.cmp k num nxt ps').k F' Fd'∧Own (F++Fd) w (F'++Fd') w':=by
 refine sCompact_vc fun k1 hk1 w1 hw1 hkn1=>⟨(ready_ok (h.kp0 hw1).sto (h.kp0 hw1).dk).mono ?_⟩
 rintro e w2 ⟨rfl,hw2⟩
 have hk02:=hw1.trans hw2
 have h2':=h.kp0 hk02
 refine⟨_,rfl,hw2,fun hr _=>?_,fun hr=>?_⟩
 ·refine⟨st.places,List.Perm.refl _,?_⟩
  have e:st.cmp k num nxt st.places=⟨readyE st k,st,k,num,nxt⟩:=by unfold Sto.cmp;rw[if_pos hr]
  rw[e]
  exact⟨rfl,l,F,Fd,h2',Own.of0 hk02⟩
 have hlog2:=h2'.sto.log
 have hls:LdA w2 ((⟨s,0,none⟩:Addr).add 0) [.pointer (some ⟨l,0,none⟩)]:=by
  obtain⟨m,ra,rn,rc,qa,qn,qc,hI,_,_⟩:=h2'.sto
  rw[add_lit];exact ldA_blk hI.hs 0 [_] rfl
 have hl0:LdA w2 ((⟨l,0,none⟩:Addr).add 0) [.pointer (some ⟨d,0,none⟩)]:=by rw[add_lit];exact ldA_blk hlog2 0 [_] rfl
 have ew:IntKind.u64.wrap (num+1)=num+1:=wrap_in (ini_u64.2 (by omega))
 have s1:=hw1.size
 have s2:=hw2.size
 have hk1l:=block_lt hkn1
 have fin:∀{wa:World},∀w' ps',ps'.Perm st.places→∀l' F' Fd',SysAt M w' s l' d (st.cmp k num nxt ps').num (st.cmp k num nxt ps').nxt (st.cmp k num nxt ps').st (st.cmp k num nxt ps').k F' Fd'→Own (F++Fd) w (F'++Fd') w'→
  ∃ps',ps'.Perm st.places∧Ending.returned (.int .i64 (st.cmp k num nxt ps').e)=.returned (.int .i64 (st.cmp k num nxt ps').e)∧∃l' F' Fd',SysAt M w' s l' d (st.cmp k num nxt ps').num (st.cmp k num nxt ps').nxt (st.cmp k num nxt ps').st (st.cmp k num nxt ps').k F' Fd'∧Own (F++Fd) w (F'++Fd') w' :=
  fun {_} w' ps' hp l' F' Fd' hs ho=>⟨ps',hp,rfl,l',F',Fd',hs,ho⟩
 refine⟨_,hls,_,rfl,_,hl0,_,hls,_,rfl,_,hlog2.ld1,fun w3 hw3 hkn3=>?_,fun k4 hk4 w12 hw12 hkn12=>?_⟩
 ·rw[ew]
  refine ev_box fun w4 hb4 hw4=>⟨_,rfl,[],hw4,⟨by simp⟩,fun k2 hk2 k3 hk3 w5 hw5 hkn5=>?_⟩
  have s3:=hw3.size
  have hb5:=(hw5.blk _ (block_lt hb4) (by simp)).trans hb4
  refine⟨(cmpCore (nxt:=nxt) h hv hr h2 hnum hpl hA hT (((hk02.trans hw3).trans hw4).trans hw5) (l3:=w3.heap.size) hb5 (by omega) hkn5.1 hkn5.2.1 hkn5.2.2 (by have:=hw4.size;omega) (by have:=hw4.size;omega) hk1 (Q:=fun e w'=>∃ps',ps'.Perm st.places∧e=.returned (.int .i64 (st.cmp k num nxt ps').e)∧
   ∃l' F' Fd',SysAt M w' s l' d (st.cmp k num nxt ps').num (st.cmp k num nxt ps').nxt (st.cmp k num nxt ps').st (st.cmp k num nxt ps').k F' Fd'∧Own (F++Fd) w (F'++Fd') w') fun w' ps' hp l' F' Fd' hs ho=>⟨ps',hp,rfl,l',F',Fd',hs,ho⟩).mono fun _ _ hh=>hh⟩
 ·rw[ew]
  refine ev_box fun w13 hb13 hw13=>⟨_,rfl,[],hw13,⟨⟨by simp⟩,⟨by simp⟩⟩,fun k5 hk5 w14 hw14 hkn14=>?_⟩
  have s12:=hw12.size
  have hk4l:=block_lt hkn12.1
  have hb14:=(hw14.blk _ (block_lt hb13) (by simp;omega)).trans hb13
  have hk14:KpL [] w w14:=((hk02.trans hw12).trans hw13).more hw14 (by simp;omega)
  refine⟨(cmpCore (nxt:=nxt) h hv hr h2 hnum hpl hA hT hk14 (l3:=w12.heap.size) hb14 (by omega) hkn14.1 hkn14.2.1 hkn14.2.2 (by omega) (by have:=hw13.size;omega) hk1 (Q:=fun e w'=>∃ps',ps'.Perm st.places∧e=.returned (.int .i64 (st.cmp k num nxt ps').e)∧
   ∃l' F' Fd',SysAt M w' s l' d (st.cmp k num nxt ps').num (st.cmp k num nxt ps').nxt (st.cmp k num nxt ps').st (st.cmp k num nxt ps').k F' Fd'∧Own (F++Fd) w (F'++Fd') w') fun w' ps' hp l' F' Fd' hs ho=>⟨ps',hp,rfl,l',F',Fd',hs,ho⟩).mono fun _ _ hh=>hh⟩
end Go.Vc
namespace Go.Vc
open Go Go.Proofs
abbrev Slc:=Option Addr×Nat×Nat
def slV(x:Slc):Value:=.slice x.1 x.2.1 x.2.2
def oth(sl:List Slc)(i:Nat):List Nat:=(sl.eraseIdx i).flatMap fun x=>blkL x.1
theorem mem_oth{sl:List Slc}{i b:Nat}:b∈oth sl i↔∃k x,k≠i∧sl[k]?=some x∧b∈blkL x.1:=by
 unfold oth
 rw[List.mem_flatMap]
 constructor
 ·rintro⟨x,hx,hb⟩
  obtain⟨k,hk,hx⟩:=List.mem_eraseIdx_iff_getElem?.1 hx
  exact⟨k,x,hk,hx,hb⟩
 ·rintro⟨k,x,hk,hx,hb⟩
  exact⟨x,List.mem_eraseIdx_iff_getElem?.2 ⟨k,hk,hx⟩,hb⟩
structure Bkts (M:List Nat) (w:World) (cb T:Nat) (ls:List (List Cell)) (sl:List Slc):Prop where
 hb:w.heap[cb]?=some (.cells (sl.map slV).toArray T (0,0))
 len:sl.length=ls.length
 acc:∀i x c,sl[i]?=some x→ls[i]?=some c→Acc tCell (oth sl i++cb::M) w c x.1 x.2.1 x.2.2
 cM:cb∉M
section
variable {M:List Nat} {w w':World} {cb T:Nat} {ls:List (List Cell)} {sl:List Slc} (h:Bkts M w cb T ls sl)
include h
theorem Bkts.kp{N:List Nat}(k:KpL N w w')(hN:∀b∈N,b∈M):Bkts M w' cb T ls sl :=
 ⟨(k.blk cb (block_lt h.hb) fun hm=>h.cM (hN cb hm)).trans h.hb,h.len,fun i x c hx hc=>(h.acc i x c hx hc).kp k fun b hb=>by simp[hN b hb],h.cM⟩
theorem Bkts.kp0(k:KpL [] w w'):Bkts M w' cb T ls sl:=h.kp k (by simp)
theorem Bkts.blk_lt{i:Nat}{x:Slc}(hx:sl[i]?=some x):∀b∈blkL x.1,b<w.heap.size∧b≠cb∧b∉M:=by
 intro b hb
 have hi:i<ls.length:=by rw[←h.len];exact(List.getElem?_eq_some_iff.1 hx).1
 have:=(h.acc i x ls[i] hx (List.getElem?_eq_getElem hi)).blk_lt b hb
 exact⟨this.1,fun e=>this.2 (by simp[e]),fun e=>this.2 (by simp[e])⟩
theorem Bkts.set{i:Nat}{x y:Slc}{c c':List Cell}{w1:World}(hx:sl[i]?=some x)(_hc:ls[i]?=some c)(hC:AccC tCell (oth sl i++cb::M) w x.1 c' y.1 y.2.1 y.2.2 w1):
 Bkts M (stA w1 ((⟨cb,0,none⟩:Addr).add (i*1)) [slV y] 0) cb T (ls.set i c') (sl.set i y)∧KpL (blkL x.1) w w1∧KpL [cb] w1 (stA w1 ((⟨cb,0,none⟩:Addr).add (i*1)) [slV y] 0)∧(∃l,LdA w1 ((⟨cb,0,none⟩:Addr).add (i*1)) l∧l.length=1)∧NotFrozen w1 ((⟨cb,0,none⟩:Addr).add (i*1)) 1:=by
 have hil:i<sl.length:=(List.getElem?_eq_some_iff.1 hx).1
 have hcb:cb∉blkL x.1:=fun hm=>(h.blk_lt hx cb hm).2.1 rfl
 have hb1:w1.heap[cb]?=some (.cells (sl.map slV).toArray T (0,0)):=(hC.kp.blk cb (block_lt h.hb) hcb).trans h.hb
 obtain⟨s1,s2,s3,s4,s5⟩:=st1 (i:=i) (v:=slV y) hb1 (by simpa using hil)
 refine⟨⟨by rw[List.map_set];exact s4,by simp[h.len],fun j z d hz hd=>?_,h.cM⟩,hC.kp,s5,s1,s2⟩
 have sz1:=hC.kp.size
 rw[List.getElem?_set]at hz hd
 by_cases hij:i=j
 ·subst hij
  rw[if_pos rfl,if_pos hil,Option.some.injEq]at hz
  rw[if_pos rfl,if_pos (by rw[←h.len];exact hil),Option.some.injEq]at hd
  subst hz hd
  refine(hC.acc.weak fun b hb=>?_).kp s5 (by simp)
  rcases List.mem_append.1 hb with hb|hb
  ·obtain⟨k,z,hk,hz,hbz⟩:=mem_oth.1 hb
   rw[List.getElem?_set,if_neg (Ne.symm hk)]at hz
   exact List.mem_append_left _ (mem_oth.2 ⟨k,z,hk,hz,hbz⟩)
  ·exact List.mem_append_right _ hb
 ·rw[if_neg hij]at hz hd
  have hA:=h.acc j z d hz hd
  have hxo:∀b∈blkL x.1,b∈oth sl j:=fun b hb=>mem_oth.2 ⟨i,x,hij,hx,hb⟩
  refine(hA.step hC.kp (fun b hb=>List.mem_append_left _ (hxo b hb)) (M':=oth (sl.set i y) j++cb::M) fun b hb=>?_).kp s5 (by simp)
  rcases List.mem_append.1 hb with hb|hb
  ·obtain⟨k,u,hk,hu,hbu⟩:=mem_oth.1 hb
   rw[List.getElem?_set]at hu
   by_cases hik:i=k
   ·subst hik
    rw[if_pos rfl,if_pos hil,Option.some.injEq]at hu
    subst hu
    exact⟨(hC.own b hbu).imp (fun h=>List.mem_append_left _ (hxo b h)) id,(hC.acc.blk_lt b hbu).1⟩
   ·rw[if_neg hik]at hu
    exact⟨.inl (List.mem_append_left _ (mem_oth.2 ⟨k,u,hk,hu,hbu⟩)),by have:=(h.blk_lt hu b hbu).1;omega⟩
  ·have:=hA.mlt b (List.mem_append_right _ hb)
   exact⟨.inl (List.mem_append_right _ hb),by omega⟩
end
theorem Bkts.new{M:List Nat}{w:World}{cb T n:Nat}(hb:w.heap[cb]?=some (.cells (List.replicate n (Value.slice none 0 0)).toArray T (0,0)))(hM:∀b∈M,b<w.heap.size)(hc:cb∉M):Bkts M w cb T (List.replicate n []) (List.replicate n (none,0,0)):=by
 refine⟨by simpa[slV]using hb,by simp,fun i x c hx hc=>?_,hc⟩
 rw[List.getElem?_replicate]at hx hc
 split at hx
 ·rename_i hi
  rw[if_pos hi]at hc
  simp only[Option.some.injEq]at hx hc
  subst hx hc
  refine Acc.nil' _ fun b hb'=>?_
  rcases List.mem_append.1 hb' with hb'|hb'
  ·obtain⟨k,z,_,hz,hbz⟩:=mem_oth.1 hb'
   rw[List.getElem?_replicate]at hz
   split at hz
   ·simp at hz;subst hz;simp[blkL]at hbz
   ·cases hz
  ·rcases List.mem_cons.1 hb' with rfl|hb'
   ·exact block_lt hb
   ·exact hM b hb'
 ·cases hx
def cellP(arrays:List Nm)(i:Nat)(p:Pl×Sta):Option Cell:=if p.1.a=i∧p.2.vals.length≠0 then some ⟨p.1.co.take (ndims arrays p.1.a),p.2.vals⟩ else none
def cellsI(arrays:List Nm)(ps:List (Pl×Sta))(i:Nat):List Cell:=ps.filterMap (cellP arrays i)
def DbRel(arrays:List Nm)(ps:List (Pl×Sta))(out:List Nm):Prop :=
 ∀(i:Nat) (y:Nm),out[i]?=some y→∃x:Nm,arrays[i]?=some x∧y.name=x.name∧y.arr.dims=x.arr.dims∧y.arr.attrs=x.arr.attrs∧y.arr.cells.Perm (cellsI arrays ps i)∧CSorted y.arr.cells
theorem cellsI_ok{arrays:List Nm}{nb:Nat}{ps:List (Pl×Sta)}{i:Nat}{x:Nm}(hs:∀x∈arrays,schemaE x.arr.dims x.arr.attrs=0)(hp:∀p∈ps,PlOk arrays nb p)(hx:arrays[i]?=some x):∀c∈cellsI arrays ps i,cellE x.arr.dims x.arr.attrs c=0:=by
 intro c hc
 unfold cellsI at hc
 obtain⟨p,hpm,hpc⟩:=List.mem_filterMap.1 hc
 unfold cellP at hpc
 split at hpc
 ·rename_i h
  simp only[Option.some.injEq]at hpc
  subst hpc
  have hok:=hp p hpm
  obtain⟨g1,g2,g3,g4,g5,g6,g7,g8⟩:=hok.dims hs
  obtain⟨h0,⟨y,hy,⟨at_,h1,h2,h3⟩,h4,h5⟩,_,_⟩:=hok
  have hia:p.1.a.toNat=i:=by omega
  rw[hia,hx,Option.some.injEq]at hy
  subst hy
  have hn:ndims arrays p.1.a=x.arr.dims.length:=by unfold ndims;rw[hia,hx]
  have hco:p.1.co.take (ndims arrays p.1.a)=at_:=by
   have e2:p.1.co=(plOf p.1.a at_).co:=congrArg Pl.co h3
   have hd:=dims_14 (sch_dims (hs x (List.mem_of_getElem? hx))).1
   rw[hn,←h1,e2]
   unfold Pl.co plOf
   match at_,(by omega:1≤at_.length∧at_.length≤4) with
   |[a],_=>rfl
   |[a,b],_=>rfl
   |[a,b,c],_=>rfl
   |[a,b,c,d],_=>rfl
   |_::_::_::_::_::_,h=>simp at h
  unfold cellE
  rw[hco]
  dsimp only
  rw[if_neg,if_neg (by simp[h2]),if_neg (by simp[h4])]
  simp only[not_or,Decidable.not_not]
  refine⟨h1,?_⟩
  rcases h5 with h5|h5
  ·rw[h5]at h;simp at h
  ·exact h5
 ·cases hpc
theorem cellsI_nd{arrays:List Nm}{nb:Nat}{ps:List (Pl×Sta)}{i:Nat}(hs:∀x∈arrays,schemaE x.arr.dims x.arr.attrs=0)(hp:∀p∈ps,PlOk arrays nb p)(hk:(ps.map (·.1)).Nodup):((cellsI arrays ps i).map (·.at_)).Nodup:=by
 induction ps with
 |nil=>simp[cellsI]
 |cons p r ih =>
  rw[List.map_cons,List.nodup_cons]at hk
  have ih':=ih (fun q hq=>hp q (by simp[hq])) hk.2
  unfold cellsI at ih' ⊢
  rw[List.filterMap_cons]
  cases hc:cellP arrays i p with
  |none=>exact ih'
  |some c =>
   simp only[List.map_cons,List.nodup_cons]
   refine⟨fun hm=>?_,ih'⟩
   obtain⟨c',hc',he⟩:=List.mem_map.1 hm
   obtain⟨q,hq,hqc⟩:=List.mem_filterMap.1 hc'
   have hpo:=(hp p (by simp)).dims hs
   have hqo:=(hp q (by simp[hq])).dims hs
   unfold cellP at hc hqc
   split at hc
   ·rename_i h1
    split at hqc
    ·rename_i h2
     simp only[Option.some.injEq]at hc hqc
     subst hc hqc
     dsimp only at he
     apply hk.1
     refine List.mem_map.2 ⟨q,hq,?_⟩
     rw[←hpo.2.2.2.2.2.1,←hqo.2.2.2.2.2.1,he,h1.1,h2.1]
    ·cases hqc
   ·cases hc
end Go.Vc
namespace Go.Vc
open Go Go.Proofs
theorem ezC:ElZ Tryz.prog 140 56 (.slice none 0 0) 24:=elZ_of (i:=(Tryz.prog.info? 56).getD default) (z:=.slice none 0 0) (by kernel_rfl) (by kernel_rfl) (by kernel_rfl) rfl (by kernel_rfl) (by kernel_rfl)
def itOf(r n:Nat)(w:World):Nat:=match w.heap[r]? with
 |some (Obj.mapIter _ _ vis _)=>n - vis.size
 |_=>0
theorem itOf_at{w:World}{r m n:Nat}{arr:Array MapEntry}{clock:Nat}{vis:List Nat}(h:ItAt w r m arr clock vis):itOf r n w=n - vis.length:=by
 unfold itOf
 rw[h.it]
 simp
theorem cellsI_app{arrays:List Nm}{ps:List (Pl×Sta)}{p:Pl×Sta}{i:Nat}:cellsI arrays (ps++[p]) i=cellsI arrays ps i++(cellP arrays i p).toList:=by
 unfold cellsI
 rw[List.filterMap_append]
 cases h:cellP arrays i p<;>simp[h]
structure DbIt (w:World) (it cb m:Nat) (arr:Array MapEntry) (clock:Nat) (arrays:List Nm) (places:List (Pl×Sta)) (vis:List Nat) (sl:List Slc) (w':World):Prop where
 hit:ItAt w' it m arr clock vis
 kp:KpL [] w w'
 bk:Bkts [it] w' cb 56 ((List.range arrays.length).map (cellsI arrays (atIdx places vis))) sl
 new:∀(i:Nat) (x:Slc),sl[i]?=some x→∀b∈blkL x.1,w.heap.size≤b
set_option maxHeartbeats 8000000 in
theorem sDB_ok{M0 M M' F Fd:List Nat}{w:World}{s l d:Nat}{num nxt:Int}{st:Sto}{k:Dk}(h:StoreAt M0 w s l d num nxt st F)(hd:DkAt M' w d k Fd)(hv:StoV st)(hM:∀b∈M,b<w.heap.size):
 Calls Tryz.prog 16 #[.pointer (some ⟨s,0,none⟩)] w fun e w'=>KpL [] w w'∧if readyE st k≠0 then e=.returned (.tuple #[.slice none 0 0,.int .i64 (readyE st k)]) else
  ∃out a n c,e=.returned (.tuple #[.slice a n c,.int .i64 0])∧out.length=st.arrays.length∧DbRel st.arrays st.places out∧R (tSl tNm) M w' out [.slice a n c]:=by
 have hmx:maxSl=140737488355328:=rfl
 refine sDB_vc ⟨(ready_ok h hd).mono ?_⟩
 rintro e w1 ⟨rfl,hw1⟩
 refine⟨_,rfl,hw1,fun hne=>⟨hw1,by rw[if_pos hne]⟩,fun hz=>?_⟩
 obtain⟨m,ra,rn,rc,qa,qn,qc,hI,hl,rfl⟩:=h
 have han:=hv.an
 have hpn:=hv.pn
 obtain⟨hrn,_,_⟩:=hI.arr.sl_len
 subst hrn
 have hsl:=block_lt hI.hs
 have ld:∀{w':World} (i:Nat) (v:Value),KpL [] w w'→[Value.pointer (some ⟨l,0,none⟩),.int .i64 st.id,.slice ra st.arrays.length rc,.map (some m),.slice qa qn qc,.int .i64 st.use][i]?=some v→LdA w' ((⟨s,0,none⟩:Addr).add i) [v]:=by
  intro w' i v hk hv
  rw[add_lit]
  refine ldA_blk ((hk.blk s hsl (by simp)).trans hI.hs) _ _ ?_
  apply List.ext_getElem?
  intro j
  cases j with
  |zero=>simpa using hv
  |succ j=>simp;omega
 obtain⟨arr,clock,hM0⟩:=hI.pls
 refine⟨_,_,_,ld 2 _ hw1 rfl,ev_make ezC (by omega) (by omega) (by omega) fun w2 hb2 hw2=>⟨_,_,_,rfl,[],hw2,_,ld 3 _ (hw1.trans hw2) rfl,?_⟩⟩
 have hk02:=hw1.trans hw2
 have s1:=hw1.size
 generalize hcb:w1.heap.size=cb at *
 rw[Int.toNat_natCast]at hb2 ⊢
 have hcbl:=block_lt hb2
 have hM2:=hM0.step hk02 (by simp) (M':=s::l::(blkL qa++M0)) fun b hb=>.inl hb
 refine ev_range u114 hM2 fun w3 hit3 hw3=>⟨_,rfl,[],hw3,?_⟩
 generalize hitb:w2.heap.size=it at *
 have hk03:=hk02.trans hw3
 have hitl:=block_lt hit3.it
 have hBk3:Bkts [it] w3 cb 56 _ _:=Bkts.new (n:=st.arrays.length) ((hw3.blk cb (by omega) (by simp)).trans hb2) (by simpa using hitl) (by simp;omega)
 have e0:(List.range st.arrays.length).map (cellsI st.arrays (atIdx st.places []))=List.replicate st.arrays.length []:=by
  apply List.ext_getElem?
  intro i
  simp only[List.getElem?_map,List.getElem?_range,List.getElem?_replicate]
  split<;>rename_i hi
  ·rw[List.getElem?_range hi];simp[cellsI,atIdx]
  ·rw[List.getElem?_eq_none (by simp;omega)];rfl
 rw[←e0]at hBk3
 refine⟨fun _ w'=>∃vis sl,DbIt w it cb m arr clock st.arrays st.places vis sl w',fun _ w'=>itOf it (st.places.length+1) w',⟨[],_,hit3,hk03,hBk3,fun i x hx b hb=>?_⟩,?_⟩
 ·rw[List.getElem?_replicate]at hx
  split at hx
  ·simp at hx;subst hx;simp[blkL]at hb
  ·cases hx
 rintro w4 ⟨vis,sl,hit,hk4,hB,hnew⟩
 have s4:=hk4.size
 have itl:=block_lt hit.it
 have cbl:=block_lt hB.hb
 generalize hall_:(sl.flatMap fun x=>blkL x.1)++[cb,it]++(s::l::(blkL qa++M0))=Mb
 have hMk:∀{w':World},KpL [] w w'→MapIn Pl.enc tSta Mb w' m st.places arr clock:=by
  intro w' hk
  refine hM0.step hk (by simp) fun b hb=>?_
  rw[←hall_]at hb
  simp only[List.mem_append,List.mem_flatMap,List.mem_cons,List.not_mem_nil,or_false]at hb
  rcases hb with (⟨x,hx,hb⟩|rfl|rfl)|hb
  ·obtain⟨i,hi⟩:=List.mem_iff_getElem?.1 hx
   exact .inr (hnew i x hi b hb)
  ·exact .inr (by omega)
  ·exact .inr (by omega)
  ·exact .inl (by simpa using hb)
 have hM4:=hMk hk4
 have hal:arr.size=st.places.length:=hM4.len
 refine ev_next_map hM4 hit (fun hall w5 hk5 hh5=>.inl ⟨rfl,[],hk5,?_⟩) (fun i p cs w5 hiv hp hRp hit5 hk5=>.inr ?_)
 ·
  have hperm:=atIdx_perm (l:=st.places) (visited_perm hit.nd (fun i hi=>by have:=hit.lt i hi;omega) hall)
  have hk05:=hk4.trans hk5
  have hB5:=hB.kp0 hk5
  have s5:=hk05.size
  refine⟨_,_,_,ld 2 _ hk05 rfl,fun vs w'=>∃(j:Nat) (out:List Nm) (a:Option Addr) (n c:Nat),vs=[.slice a n c,.int .i64 (j:Int)]∧j≤st.arrays.length∧KpL [] w5 w'∧Acc tNm M w' out a n c∧(∀b∈blkL a,w5.heap.size≤b)∧out.length=j∧DbRel st.arrays st.places out,
   fun vs _=>match vs with|[_,.int _ i]=>st.arrays.length - i.toNat|_=>0,⟨0,[],none,0,0,rfl,by omega,KpL.refl _ _,Acc.nil' _ (fun b hb=>by have:=hM b hb;omega),by simp[blkL],rfl,fun i y hy=>by simp at hy⟩,?_⟩
  rintro a4 k7 k8 n2 w6 ⟨j,out,_,_,_,hvs,hj,hk6,hA6,hnew6,hol,hrel⟩
  simp only[List.cons.injEq,Value.int.injEq,Value.slice.injEq,true_and,and_true]at hvs
  obtain⟨⟨rfl,rfl,rfl⟩,rfl⟩:=hvs
  have hk06:=hk05.trans hk6
  have s6:=hk6.size
  constructor
  ·intro hlt
   have gj:j<st.arrays.length:=by omega
   have hR6:=hI.arr.kp0 hk06
   obtain⟨ad,cs,rfl,hv1,hld1,_,_⟩:=hR6.sl_get gj
   obtain⟨b1,p1,q1,b2,p2,q2,b3,p3,q3,rfl,hsz,hx1,hx2,hx3⟩:=hv1.nm
   have hxm:st.arrays[j]?=some st.arrays[j]:=List.getElem?_eq_getElem gj
   have hsch:=hv.sch _ (List.getElem_mem gj)
   generalize hxx:st.arrays[j]=x at *
   have hsj:j<sl.length:=by rw[hB5.len];simpa using gj
   have hslj:sl[j]?=some sl[j]:=List.getElem?_eq_getElem hsj
   have hcj:((List.range st.arrays.length).map (cellsI st.arrays (atIdx st.places vis)))[j]?=some (cellsI st.arrays (atIdx st.places vis) j):=by simp[List.getElem?_range gj]
   have hAj:=(hB5.acc j _ _ hslj hcj).kp0 hk6
   have hcl:(cellsI st.arrays (atIdx st.places vis) j).length≤4000:=by
    have h1:=List.length_filterMap_le (cellP st.arrays j) (atIdx st.places vis)
    have h2:=hperm.length_eq
    unfold cellsI
    omega
   have hRj:=hAj.done (by have:=hAj.len;omega)
   have hld3:LdA w6 ((⟨cb,0,none⟩:Addr).add (j*1)) [slV sl[j]]:=by
    rw[add_lit]
    refine ldA_blk ((hk6.blk cb (block_lt hB5.hb) (by simp)).trans hB5.hb) _ _ ?_
    apply List.ext_getElem?
    intro i
    cases i with
    |zero=>simp[hsj]
    |succ i=>simp;omega
   have hok:∀c∈cellsI st.arrays (atIdx st.places vis) j,cellE x.arr.dims x.arr.attrs c=0:=cellsI_ok hv.sch (fun p hp=>hv.pls p (hperm.mem_iff.1 hp)) hxm
   have hnd:((cellsI st.arrays (atIdx st.places vis) j).map (·.at_)).Nodup:=cellsI_nd (i:=j) hv.sch (fun p hp=>hv.pls p (hperm.mem_iff.1 hp)) (((hperm.map (·.1)).nodup_iff).2 hv.keys)
   have hpc:(cellsI st.arrays (atIdx st.places vis) j).Perm (cellsI st.arrays st.places j):=hperm.filterMap _
   have hlA:=hA6.len
   have mk:∀{wa:World} (E:List Nat),(∀b∈E,b<wa.heap.size)→KpL [] w6 wa→Calls Tryz.prog 69 #[.slice b1 p1 q1,.slice b2 p2 q2,slV sl[j]] wa fun e w'=>∃b1 p1 q1 b2 p2 q2 b3 p3 q3 cells',e=.returned (.tuple #[.agg #[.slice b1 p1 q1,.slice b2 p2 q2,.slice b3 p3 q3],.int .i64 0])∧KpL [] wa w'∧
    cells'.Perm (cellsI st.arrays (atIdx st.places vis) j)∧CSorted cells'∧R (tSl tDim) (E++(blkL a4++M)) w' x.arr.dims [.slice b1 p1 q1]∧R (tSl tAttr) (E++(blkL a4++M)) w' x.arr.attrs [.slice b2 p2 q2]∧R (tSl tCell) (E++(blkL a4++M)) w' cells' [.slice b3 p3 q3]:=by
    intro wa E hE hka
    have sa:=hka.size
    exact make_ok (fun b hb=>by
     rcases List.mem_append.1 hb with hb|hb
     ·exact hE b hb
     rcases List.mem_append.1 hb with hb|hb
     ·have:=(hA6.blk_lt b hb).1;omega
     ·have:=hA6.mlt b hb;omega) (hx1.kp0 hka) (hx2.kp0 hka) (hRj.kp0 hka) hsch (by omega) hok hnd
   have next:∀{wb wc:World} {kx:Nat} {b1 b2 b3:Option Addr} {p1 q1 p2 q2 p3 q3:Nat} {cells':List Cell},KpL [] w6 wb→cells'.Perm (cellsI st.arrays (atIdx st.places vis) j)→CSorted cells'→R (tSl tDim) (blkL a4++M) wb x.arr.dims [.slice b1 p1 q1]→R (tSl tAttr) (blkL a4++M) wb x.arr.attrs [.slice b2 p2 q2]→R (tSl tCell) (blkL a4++M) wb cells' [.slice b3 p3 q3]→
    wb.heap[kx]?=some (.cells #[.string x.name,.slice b1 p1 q1,.slice b2 p2 q2,.slice b3 p3 q3] 60 (0,0))→∀{Q:Value→World→Prop},(∀a' c' w',KpL (blkL a4) wb w'→(∃(j':Nat) (out:List Nm) (a:Option Addr) (n c:Nat),[Value.slice a' (k7+1) c',.int .i64 ((j:Int)+1)]=[.slice a n c,.int .i64 (j':Int)]∧j'≤st.arrays.length∧KpL [] w5 w'∧Acc tNm M w' out a n c∧(∀b∈blkL a,w5.heap.size≤b)∧out.length=j'∧DbRel st.arrays st.places out)→Q (.slice a' (k7+1) c') w')→
    Ev Tryz.prog (Builtin.append_ #[23,23] 23 #[.slice a4 k7 k8,.slice (some ⟨kx,0,none⟩) 1 1]) wb Q:=by
    intro wb wc kx b1 b2 b3 p1 q1 p2 q2 p3 q3 cells' hkb hpm hso h1 h2 h3 hbk Q hQ
    refine ev_append1 apNm (hA6.kp0 hkb) hbk (R.mkNm (c:=⟨x.name,⟨x.arr.dims,x.arr.attrs,cells'⟩⟩) hsz h1 h2 h3) (by omega) fun a' c' w' hC=>hQ a' c' w' hC.kp ⟨j+1,_,a',k7+1,c',rfl,by omega,?_,hC.acc,?_,by simp[hol],?_⟩
    ·exact(hk6.trans hkb).more hC.kp fun b hb=>.inr (hnew6 b hb)
    ·intro b hb
     rcases hC.own b hb with hb|hb
     ·exact hnew6 b hb
     ·have:=hkb.size;omega
    ·intro i y hy
     rw[List.getElem?_append]at hy
     split at hy
     ·exact hrel i y hy
     ·rename_i hge
      have hi:i=j:=by
       have:=(List.getElem?_eq_some_iff.1 hy).1
       simp at this
       omega
      subst hi
      rw[hol]at hy
      simp at hy
      subst hy
      exact⟨x,hxm,rfl,rfl,rfl,hpm.trans hpc,hso⟩
   refine⟨ad,rfl,by omega,hlt,_,_,_,_,_,_,_,_,_,_,hld1,fun k15 hk15=>⟨⟨cb,0,none⟩,rfl,by omega,hlt,_,_,_,hld3,fun w7 hw7 hkn7=>⟨(mk [] (by simp) hw7).mono ?_⟩,fun k28 hk28 w12 hw12 hkn12=>⟨(mk [k28] (by simpa using block_lt hkn12.1) hw12).mono ?_⟩⟩⟩
   ·rintro e w8 ⟨c1,p1',q1',c2,p2',q2',c3,p3',q3',cells',rfl,hw8,hpm,hso,h1,h2,h3⟩
    refine⟨_,_,_,_,_,_,_,_,_,_,rfl,hw8,fun k24 hk24=>⟨fun hc=>absurd rfl hc,fun _ k25 hk25 w10 hw10 hkn10=>?_⟩⟩
    have s7:=hw7.size
    have s8:=hw8.size
    refine next ((hw7.trans hw8).trans hw10) hpm hso (h1.kp0 hw10) (h2.kp0 hw10) (h3.kp0 hw10) hkn10.1 (wc:=w10) fun a' c' w' hkp hinv=>⟨_,_,_,rfl,_,hkp,⟨⟨fun hm=>by have:=(hA6.blk_lt _ hm).1;omega⟩,⟨fun hm=>by have:=(hA6.blk_lt _ hm).1;omega⟩,⟨fun hm=>by have:=(hA6.blk_lt _ hm).1;omega⟩⟩,ini_i64.2 (by omega),fun _=>⟨hinv,by dsimp only;omega⟩⟩
   ·rintro e w13 ⟨c1,p1',q1',c2,p2',q2',c3,p3',q3',cells',rfl,hw13,hpm,hso,h1,h2,h3⟩
    have hk28l:=block_lt hkn12.1
    have s12:=hw12.size
    have s13:=hw13.size
    refine⟨_,_,_,_,_,_,_,_,_,_,rfl,hw13,fun hc=>absurd rfl hc,fun _ k35 hk35 w15 hw15 hkn15=>?_⟩
    have hk28M:k28∉blkL a4++M:=fun hm=>by
     rcases List.mem_append.1 hm with hm|hm
     ·have:=(hA6.blk_lt _ hm).1;omega
     ·have:=hA6.mlt _ hm;omega
    have hk615:KpL [] w6 w15:=(hw12.trans hw13).more hw15 (by simp;omega)
    have up:∀{α:Type} {t:Ty α} {x:α} {cs:List Value},R t ([k28]++(blkL a4++M)) w13 x cs→R t (blkL a4++M) w15 x cs:=fun hr=>(hr.kp hw15 (by simp)).weak fun b hb=>by simp only[List.cons_append,List.nil_append,List.mem_cons];exact .inr hb
    refine next hk615 hpm hso (up h1) (up h2) (up h3) hkn15.1 (wc:=w15) fun a' c' w' hkp hinv=>⟨_,_,_,rfl,_,hkp,⟨⟨fun hm=>by have:=(hA6.blk_lt _ hm).1;omega⟩,⟨fun hm=>hk28M (List.mem_append_left _ hm)⟩,⟨fun hm=>by have:=(hA6.blk_lt _ hm).1;omega⟩⟩,ini_i64.2 (by omega),fun _=>⟨hinv,by dsimp only;omega⟩⟩
  ·intro hge
   have hje:j=st.arrays.length:=by omega
   subst hje
   exact⟨hk06,by rw[if_neg hz];exact⟨out,a4,k7,k8,rfl,hol,hrel,hA6.done (by have:=hA6.len;omega)⟩⟩
 ·obtain⟨va,vn,vc,rfl,hbi,hRv⟩:=hRp.sta
  obtain⟨hil,rfl⟩:=List.getElem?_eq_some_iff.1 hp
  have hk05:KpL [] w w5:=hk4.more hk5 (by simp;omega)
  have s5:=hk05.size
  have hM5:=hMk hk05
  have hvl:vis.length+1≤st.places.length:=by
   have h1:=List.Nodup.length_le_of_subset hit5.nd (l₂:=List.range arr.size) (fun i hi=>List.mem_range.2 (hit5.lt i hi))
   simpa[hal]using h1
  have hat:atIdx st.places (vis++[i])=atIdx st.places vis++[st.places[i]]:=by unfold atIdx;rw[List.map_append];simp[hil]
  refine⟨_,_,_,_,_,_,_,_,_,rfl,[it],hk5,ev_entry_map hM5 hit5 fun p' cs' hp' hRp'=>?_⟩
  rw[List.getElem?_eq_getElem hil,Option.some.injEq]at hp'
  subst hp'
  have hpo:=hv.pls _ (List.getElem_mem hil)
  have hkey:=hI.keys _ (List.getElem_mem hil)
  generalize st.places[i]=p at *
  obtain⟨va',vn',vc',rfl,_,hRv'⟩:=hRp'.sta
  obtain⟨hvn,_,_⟩:=hRv'.sl_len
  subst hvn
  obtain⟨g1,g2,g3,g4,g5,g6,g7,g8⟩:=hpo.dims hv.sch
  have ga0:=hpo.a0
  have mea:∀{w':World},ItAt w' it m arr clock (vis++[i])→itOf it (st.places.length+1) w'<itOf it (st.places.length+1) w4:=fun h=>by
   rw[itOf_at h,itOf_at hit];simp;omega
  refine⟨_,_,_,_,_,_,_,_,_,rfl,[],KpL.refl _ _,fun k42 hk42 k43 hk43=>⟨fun hpos=>?_,fun hnp w23 hw23 _=>?_⟩⟩
  ·obtain⟨x,hx,_⟩:=hpo.ex
   have hR5:=hI.arr.kp0 hk05
   obtain⟨ad,cs,rfl,hv1,_,_,_,hpt⟩:=hR5.sl_get2 g1
   have hxe:st.arrays[p.1.a.toNat]=x:=by rw[List.getElem?_eq_getElem g1]at hx;exact Option.some.inj hx
   rw[hxe]at hv1
   obtain⟨b1,p1,q1,b2,p2,q2,b3,p3,q3,rfl,hsz,hx1,hx2,hx3⟩:=hv1.nm
   obtain⟨hp1,_,_⟩:=hx1.sl_len
   have hnd:ndims st.arrays p.1.a=x.arr.dims.length:=by unfold ndims;rw[hx]
   have hsj:p.1.a.toNat<sl.length:=by rw[hB.len];simpa using g1
   have hslj:sl[p.1.a.toNat]?=some sl[p.1.a.toNat]:=List.getElem?_eq_getElem hsj
   have hcj:((List.range st.arrays.length).map (cellsI st.arrays (atIdx st.places vis)))[p.1.a.toNat]?=some (cellsI st.arrays (atIdx st.places vis) p.1.a.toNat):=by simp[List.getElem?_range g1]
   have hB5:=hB.kp hk5 (by simp)
   have hld3:LdA w5 ((⟨cb,0,none⟩:Addr).add (p.1.a.toNat*1)) [slV sl[p.1.a.toNat]]:=by
    rw[add_lit]
    refine ldA_blk hB5.hb _ _ ?_
    apply List.ext_getElem?
    intro i
    cases i with
    |zero=>simp[hsj]
    |succ i=>simp;omega
   have hxn:=hnew _ _ hslj
   generalize sl[p.1.a.toNat]=xs at *
   obtain⟨xa,xn,xc⟩:=xs
   have hps:=pv_sliceArr (P:=Tryz.prog) (at_:=141) u141' (sz:=1) s3 (ad:=⟨k42,0+1,none⟩) (l:=0) (h:=p1) (lo:=none) (hi:=some (.int .i64 (p1:Int))) (.inr ⟨rfl,rfl⟩) (.inl rfl) (by omega) (by omega)
   refine⟨_,_,_,ld 2 _ hk05 rfl,ad,rfl,ga0,by omega,b1,p1,q1,by rw[addr0];exact hpt 1 [_] rfl,⟨cb,0,none⟩,rfl,ga0,by omega,xa,xn,xc,hld3,_,_,_,hps,fun w18 hw18 hkn18=>?_⟩
   have s18:=hw18.size
   have hk018:=hk05.trans hw18
   have hRco:R (tSl (tI .i64)) [] w18 (p.1.co.take x.arr.dims.length) [.slice (some ((⟨k42,0+1,none⟩:Addr).add (0*1))) p1 (4 - 0)]:=by
    have hh:=(R.co (p:=p.1) hkn18.2 hkey).sub 0 p1 (by omega) (by omega)
    rw[List.drop_zero,Nat.sub_zero,Nat.sub_zero,hp1]at hh
    rw[hp1]
    simpa using hh
   have hA18:=(hB5.acc _ _ _ hslj hcj).kp0 hw18
   have hMl:∀b∈blkL xa++(oth sl p.1.a.toNat++cb::[it]),b<w18.heap.size:=by
    intro b hb
    rcases List.mem_append.1 hb with hb|hb
    ·exact(hA18.blk_lt b hb).1
    ·exact hA18.mlt b hb
   refine⟨(clone68_ok (M:=blkL xa++(oth sl p.1.a.toNat++cb::[it])) hMl (by omega) hRco).mono ?_⟩
   rintro e w19 ⟨a23,n23,c23,rfl,hV⟩
   have hRat:=hV.acc.done (by have:=hV.acc.len;simp[Pl.co]at this;omega)
   refine⟨_,_,_,rfl,hV.kpn,fun k54 hk54 w20 hw20 hkn20=>?_⟩
   have hk1820:=hV.kpn.trans hw20
   have s20:=hk1820.size
   have hk520:=hw18.trans hk1820
   have hB20:=hB5.kp0 hk520
   have hvals:R (tSl tVal) (blkL xa++(oth sl p.1.a.toNat++cb::[it])) w20 p.2.vals [.slice va' p.2.vals.length vc']:=by
    refine(hRv'.kp0 hk520).weak fun b hb=>?_
    refine List.mem_cons_of_mem _ ?_
    rw[←hall_]
    simp only[List.mem_append,List.mem_flatMap,List.mem_cons,List.not_mem_nil,or_false]at hb ⊢
    rcases hb with hb|hb|hb
    ·exact .inl (.inl ⟨_,List.mem_of_getElem? hslj,hb⟩)
    ·obtain⟨k,z,_,hz,hbz⟩:=mem_oth.1 hb
     exact .inl (.inl ⟨z,List.mem_of_getElem? hz,hbz⟩)
    ·exact .inl (.inr hb)
   have hA20:=hB20.acc _ _ _ hslj hcj
   have hlA:=hA20.len
   have hcl:(cellsI st.arrays (atIdx st.places vis) p.1.a.toNat).length≤4000:=by
    have h1:=List.length_filterMap_le (cellP st.arrays p.1.a.toNat) (atIdx st.places vis)
    unfold cellsI
    unfold atIdx at h1 ⊢
    rw[List.length_map]at h1
    omega
   have hxb:=hB20.blk_lt hslj
   refine ev_append1 apC hA20 hkn20.1 (R.mkCell (c:=⟨p.1.co.take x.arr.dims.length,p.2.vals⟩) (hRat.kp0 hw20) hvals) (by dsimp only at hlA ⊢;omega) fun a24 c24 w21 hC=>⟨_,_,_,rfl,_,hC.kp,⟨⟨fun hm=>?_⟩,⟨fun hm=>?_⟩,⟨fun hm=>?_⟩⟩,fun hkn21=>⟨⟨ldA_blk hkn21.2.2 0 [_] rfl,trivial⟩,⟨cb,0,none⟩,rfl,ga0,by omega,fun _=>?_⟩⟩
   ·have:=(hA18.blk_lt _ hm).1;have:=hV.kpn.size;omega
   ·have:=(hB5.blk_lt hslj _ hm).1;omega
   ·have:=(hB5.blk_lt hslj _ hm).1;omega
   obtain⟨t1,t2,t3,t4,t5⟩:=hB20.set (y:=(a24,xn+1,c24)) hslj hcj hC
   have hcbs:cb<w5.heap.size:=block_lt hB5.hb
   have s19:=hV.kpn.size
   refine⟨t4,t5,⟨⟨by rw[add_lit];simp;omega⟩,⟨by rw[add_lit];simp;omega⟩,⟨by rw[add_lit];simp;omega⟩⟩,?_⟩
   rintro w22 rfl _
   have hit22:=((hit5.keep hk520 (by simp)).keep hC.kp (fun hm=>(hxb it hm).2.2 (by simp))).keep t3 (by simp;omega)
   refine⟨⟨vis++[i],sl.set p.1.a.toNat (a24,xn+1,c24),hit22,?_,?_,?_⟩,mea hit22⟩
   ·exact((hk05.trans hk520).more hC.kp fun b hb=>.inr (hxn b hb)).more t3 (by simp;omega)
   ·have e1:(List.range st.arrays.length).map (cellsI st.arrays (atIdx st.places (vis++[i])))=((List.range st.arrays.length).map (cellsI st.arrays (atIdx st.places vis))).set p.1.a.toNat (cellsI st.arrays (atIdx st.places vis) p.1.a.toNat++[⟨p.1.co.take x.arr.dims.length,p.2.vals⟩]):=by
     apply List.ext_getElem?
     intro j
     rw[List.getElem?_set,hat]
     by_cases hj:p.1.a.toNat=j
     ·subst hj
      rw[if_pos rfl,if_pos (by simpa using g1)]
      simp only[List.getElem?_map,List.getElem?_range g1,Option.map_some,Option.some.injEq]
      rw[cellsI_app]
      congr 1
      unfold cellP
      rw[if_pos ⟨by omega,by omega⟩,hnd]
      rfl
     ·rw[if_neg hj]
      simp only[List.getElem?_map]
      by_cases hjl:j<st.arrays.length
      ·simp only[List.getElem?_range hjl,Option.map_some,Option.some.injEq]
       rw[cellsI_app]
       unfold cellP
       rw[if_neg (by omega)]
       simp
      ·rw[List.getElem?_eq_none (by simp;omega)];rfl
    rw[e1]
    exact t1
   ·intro j z hz b hb
    rw[List.getElem?_set]at hz
    by_cases hj:p.1.a.toNat=j
    ·rw[if_pos hj]at hz
     have hz':(a24,xn+1,c24)=z:=by
      subst hj
      rw[if_pos hsj]at hz
      exact Option.some.inj hz
     subst hz'
     rcases hC.own b hb with hb|hb
     ·exact hxn b hb
     ·have:=hk520.size;omega
    ·rw[if_neg hj]at hz
     exact hnew j z hz b hb
  ·have hit23:=hit5.keep hw23 (by simp)
   refine⟨⟨vis++[i],sl,hit23,hk05.trans hw23,?_,hnew⟩,mea hit23⟩
   have e1:(List.range st.arrays.length).map (cellsI st.arrays (atIdx st.places (vis++[i])))=(List.range st.arrays.length).map (cellsI st.arrays (atIdx st.places vis)):=by
    apply List.map_congr_left
    intro j _
    rw[hat,cellsI_app]
    unfold cellP
    rw[if_neg (by omega)]
    simp
   rw[e1]
   exact(hB.kp hk5 (by simp)).kp0 hw23
end Go.Vc
namespace Go.Vc
open Go Go.Proofs
def Dk.zeroL:Nat→Nat→Dk→Int×Dk
 |0,_,k=>k.sync
 |f+1,i,k=>if (k.write i zeros).1≠0 then k.write i zeros else Dk.zeroL f (i+1) (k.write i zeros).2
def Dk.zero(k:Dk):Int×Dk:=Dk.zeroL k.n 0 k
theorem fZero_ok{M F:List Nat}{w:World}{d v:Nat}{k:Dk}(h:DkAt M w d k F)(hv:w.heap[v]?=some (.cells #[.pointer (some ⟨d,0,none⟩)] 40 (0,0)))(hvM:v∈M)(hpl:k.pend.length≤1000000):
 Calls Tryz.prog 79 #[.pointer (some ⟨v,0,none⟩)] w fun e w'=>e=.returned (.int .i64 k.zero.1)∧DkTo M F w d k.zero.2 w':=by
 obtain⟨s,hs1,hs2,hs3,hs4⟩:=h.ok.secs
 refine fZero_vc hv fun _=>⟨(dSectors_ok h).mono ?_⟩
 rintro e w1 ⟨rfl,hw1⟩
 have esec:k.secs=k.n:=rfl
 rw[esec]
 refine⟨_,rfl,hw1,fun vs w'=>∃(i:Nat),∃k' F',vs=[.int .i64 (i:Int)]∧i≤k.n∧DkAt M w' d k' F'∧Own F w F' w'∧k'.n=k.n∧k'.pend.length≤1000000+i∧Dk.zeroL (k.n - i) i k'=k.zero,
  fun vs _=>match vs with|[.int _ i]=>k.n - i.toNat|_=>0,fun _=>⟨0,k,F,rfl,by omega,h.kp0 hw1,Own.of0 hw1,rfl,by omega,rfl⟩,?_⟩
 rintro n2 w2 ⟨i,k1,F1,hvs,hi,hD1,hO1,hn1,hp1,he1⟩
 simp only[List.cons.injEq,Value.int.injEq,true_and,and_true]at hvs
 subst hvs
 have hsc:=hD1.ok.secs
 constructor
 ·intro hlt w3 hw3 hkn3
  have e1:k.n - i=(k.n - (i+1))+1:=by omega
  rw[e1,Dk.zeroL]at he1
  have s3:=hw3.size
  refine ev_make ez5 (by omega) (by omega) (by omega) fun w4 hb4 hw4=>⟨_,_,_,rfl,[],hw4,⟨by simp⟩,fun hkn4=>⟨⟨ldA_blk hkn4 0 [_] rfl,trivial⟩,fun _=>?_⟩⟩
  have hk24:=hw3.trans hw4
  have hD4:=hD1.kp0 hk24
  have hzb:w4.heap[w3.heap.size]?=some (.cells ((zeros.map (Value.int .u8))++[]).toArray 5 (0,0)):=by simpa[zeros]using hb4
  have hR:R (tSl (tI .u8)) (F1++[]) w4 zeros [.slice (some ⟨w3.heap.size,0,none⟩) 64 64]:=R.ofBlk (bs:=zeros) (c:=64) hzb (by simp;intro hm;have:=(hD1.own_lt _ hm).1;omega) (by intro x hx;simp[zeros]at hx;subst hx;exact ini_u8.2 (by omega)) (by simp[zeros]) (by simp[zeros,maxSl])
  refine⟨(dWrite_ok hD4 (by omega) (i:=i) (b:=zeros) (by obtain⟨s',g1,g2,g3,g4⟩:=hsc;omega) hR).mono ?_⟩
  rintro e w5 ⟨rfl,F2,hD5,hO5⟩
  refine⟨_,rfl,_,hO5.kp,hD4.out hvM,fun hne _=>?_,fun hz=>⟨ini_i64.2 (by omega),fun _=>⟨⟨i+1,_,F2,rfl,by omega,hD5,(hO1.kp0 hk24).trans hO5,(Dk.write_n _ _ _).trans hn1,?_,?_⟩,by dsimp only;omega⟩⟩⟩
  ·rw[if_pos hne]at he1
   rw[←he1]
   exact⟨rfl,F2,hD5,(hO1.kp0 hk24).trans hO5⟩
  ·have:=Dk.write_pend k1 i zeros;omega
  ·rw[if_neg hz]at he1;exact he1
 ·intro hge hkn2
  have hie:i=k.n:=by omega
  subst hie
  rw[Nat.sub_self,Dk.zeroL]at he1
  refine⟨(dSync_ok hD1 (by omega)).mono ?_⟩
  rintro e w6 ⟨rfl,F2,hD6,hO6⟩
  refine⟨_,rfl,_,hO6.kp,hD1.out hvM,fun _=>?_⟩
  rw[←he1]
  exact⟨rfl,F2,hD6,hO1.trans hO6⟩
def Dk.fmt(k:Dk)(b:List Int):Int×Dk :=
 if k.zero.1≠0 then k.zero
 else if (k.zero.2.add 1 0 1 b).1≠0 then k.zero.2.add 1 0 1 b
 else (k.zero.2.add 1 0 1 b).2.note 1
theorem fmtSteps{M F Fd:List Nat}{w:World}{s l d vd vs kf:Nat}{st:Sto}{k:Dk}(h:SysAt M w s l d 1 0 st k F Fd)(hv:StoV st)(hpl:k.pend.length≤900000)(hX:∀x∈[kf,vd,vs],x∈M)
 (hA:∀ps',ps'.Perm st.places→k.zero.1=0→AddOk k.zero.2 1 0 1 (encBase st.arrays st.batches ps'))
 (hT:∀ps',ps'.Perm st.places→k.zero.1=0→(k.zero.2.add 1 0 1 (encBase st.arrays st.batches ps')).1=0→(k.zero.2.add 1 0 1 (encBase st.arrays st.batches ps')).2.pend.length≤1000000)
 (hf:w.heap[kf]?=some (.cells #[.func (.func 79) #[] #[.pointer (some ⟨vd,0,none⟩)],.func (.func 81) #[] #[.pointer (some ⟨vs,0,none⟩)],.func (.func 60) #[.pointer (some ⟨l,0,none⟩)] #[]] 49 (0,0)))
 (hvd:w.heap[vd]?=some (.cells #[.pointer (some ⟨d,0,none⟩)] 40 (0,0)))(hvs:w.heap[vs]?=some (.cells #[.pointer (some ⟨s,0,none⟩)] 41 (0,0))):
 Calls Tryz.prog 55 #[.slice (some ⟨kf,0,none⟩) 3 3] w fun e w'=>∃ps',ps'.Perm st.places∧e=.returned (.int .i64 (k.fmt (encBase st.arrays st.batches ps')).1)∧∃Fd' nxt',SysAt M w' s l d 1 nxt' st (k.fmt (encBase st.arrays st.batches ps')).2 F Fd'∧Own (F++Fd) w (F++Fd') w'∧((k.fmt (encBase st.arrays st.batches ps')).1=0→nxt'=0+1+secsOf (encBase st.arrays st.batches ps')):=by
 have hMl:=h.mlt
 have hFn:∀x∈[kf,vd,vs],x∉F++Fd:=fun x hx hm=>(h.own_lt x hm).2 (hX x hx)
 have hlF:=h.sto.lF
 have hlD:l∈F++M:=List.mem_append_left _ hlF
 have hXD:∀x∈[kf,vd,vs],x∈F++M:=fun x hx=>List.mem_append_right _ (hX x hx)
 have hXl:∀x∈[kf,vd,vs],x≠l:=fun x hx e=>hFn x hx (List.mem_append_left _ (e▸hlF))
 have hl:=h.sto.log
 refine all_ok (b:=kf) (fs:=[(79,#[],#[.pointer (some ⟨vd,0,none⟩)]),(81,#[],#[.pointer (some ⟨vs,0,none⟩)]),(60,#[.pointer (some ⟨l,0,none⟩)],#[])]) (T:=49) hf (by simp) (c:=3) ?_
 refine⟨⟨_,_,Tryz.func79,rfl⟩,⟨(fZero_ok h.dk hvd (hXD vd (by simp)) (by omega)).mono ?_⟩⟩
 rintro e w1 ⟨rfl,Fd1,hD1,hO1⟩
 have own3:∀{wa wb:World} {Fa Fb:List Nat},Own Fa wa Fb wb→Own (l::Fa) wa (l::Fb) wb:=fun ho=>⟨ho.kp.mono (by intro x hx;simp[hx]),fun x hx=>(List.mem_cons.1 hx).elim (fun h=>.inl (by simp[h])) fun hx=>(ho.new x hx).imp (fun h=>by simp[h]) id⟩
 have hl1:=hl.keep hO1.kp (h.dk.out hlD).no
 obtain⟨Fd1',h1,ho1⟩:=h.logTo (nxt':=0) (num':=1) ⟨Fd1,hD1,own3 hO1,hl1⟩
 have kp1:=hO1.kp
 have no1:∀x∈[kf,vd,vs],x∉Fd:=fun x hx hm=>hFn x hx (List.mem_append_right _ hm)
 clear hD1 hO1
 refine⟨_,_,rfl,kp1,⟨no1 kf (by simp)⟩,fun hne=>?_,fun hz=>?_⟩
 ·have e1:k.fmt (encBase st.arrays st.batches st.places)=k.zero:=by unfold Dk.fmt;rw[if_pos hne]
  exact⟨st.places,List.Perm.refl _,by rw[e1],Fd1',0,by rw[e1];exact h1,ho1,fun hc=>absurd (by rw[←e1];exact hc) hne⟩
 have hvs1:w1.heap[vs]?=_:=(kp1.blk vs (block_lt hvs) (no1 vs (by simp))).trans hvs
 have hs1:LdA w1 ((⟨s,0,none⟩:Addr).add 0) [.pointer (some ⟨l,0,none⟩)]:=by
  obtain⟨m,ra,rn,rc,qa,qn,qc,hI,_,_⟩:=h1.sto
  rw[add_lit];exact ldA_blk hI.hs 0 [_] rfl
 refine⟨⟨_,_,Tryz.func81,rfl⟩,⟨fBase_vc hvs1 ⟨_,hs1,fun w2 hw2 hkn2=>⟨(sBase_ok (N:=l::Fd1') (fun x hx=>?_) ((h1.kp0 hw2).sto.weak (by simp)) (hv.stoOk (List.Perm.refl _))).mono ?_⟩⟩⟩⟩
 ·have:=hw2.size
  rcases List.mem_cons.1 hx with rfl|hx
  ·have:=(h1.sto.own_lt _ h1.sto.lF).1;omega
  ·have:=(h1.dk.own_lt x hx).1;omega
 rintro e w3 ⟨ps',hperm,hsorted,a,n,c,rfl,hV⟩
 have hk13:KpL [] w1 w3:=hw2.trans hV.kpn
 have ho:=hA ps' hperm hz
 have hlen:=hV.acc.len
 have hlb:(encBase st.arrays st.batches ps').length≤1000000:=by
  have h1':=ho.fit
  have h2:=k.zero.2.half_le
  obtain⟨ss,g1,g2,g3⟩:=h1.dk.ok.secs
  unfold secsOf at h1'
  omega
 have hRb:=hV.acc.done (by have:maxSl=140737488355328:=rfl;omega)
 have h3:=h1.kp0 hk13
 have hl3:=h3.sto.log
 refine⟨_,_,_,rfl,hV.kpn,fun hkn3=>⟨(lAdd_ok h3.dk hl3 hlD hRb (ini_u8.2 (by omega)) ho.n2 (by omega) ho.fit ho.pl ho.ps ho.ps2).mono ?_⟩⟩
 rintro e w4 ⟨rfl,hT2⟩
 have kp4:KpL (l::Fd1') w3 w4:=by obtain⟨_,_,hO,_⟩:=hT2;exact hO.kp
 obtain⟨Fd2,h4,ho4⟩:=h3.logTo hT2
 have ho04:=(ho1.kp0 hk13).trans ho4
 have no4:∀x∈[kf,vd,vs],NotIn x (l::Fd1'):=fun x hx=>⟨fun hm=>(List.mem_cons.1 hm).elim (hXl x hx) fun hm=>(h1.dk.own_lt x hm).2 (hXD x hx)⟩
 refine⟨_,rfl,_,kp4,no4 vs (by simp),fun hkn4=>⟨_,_,rfl,(hk13.mono (by simp)).trans kp4,no4 kf (by simp),fun hne=>?_,fun hz2=>?_⟩⟩
 ·have e1:k.fmt (encBase st.arrays st.batches ps')=k.zero.2.add 1 0 1 (encBase st.arrays st.batches ps'):=by unfold Dk.fmt;rw[if_neg (by simp[hz]),if_pos hne]
  exact⟨ps',hperm,by rw[e1],Fd2,_,by rw[e1];exact h4,ho04,fun hc=>absurd (by rw[←e1];exact hc) hne⟩
 have hl4:=h4.sto.log
 refine⟨⟨_,_,Tryz.func60,rfl⟩,⟨(lNote_ok h4.dk hl4 hlD (by rw[Dk.add_n];exact ho.n2) (by omega) (hT ps' hperm hz hz2)).mono ?_⟩⟩
 rintro e w5 ⟨rfl,Fd3,hD5,hO5⟩
 have kp5:=hO5.kp
 obtain⟨Fd3',h5,ho5⟩:=h4.logTo ⟨Fd3,hD5,own3 hO5,hl4.keep hO5.kp (h4.dk.out hlD).no⟩
 have e1:k.fmt (encBase st.arrays st.batches ps')=(k.zero.2.add 1 0 1 (encBase st.arrays st.batches ps')).2.note 1:=by unfold Dk.fmt;rw[if_neg (by simp[hz]),if_neg (by simp[hz2])]
 have fin:∀n:Int,n=(k.fmt (encBase st.arrays st.batches ps')).1→∃ps',ps'.Perm st.places∧Ending.returned (.int .i64 n)=.returned (.int .i64 (k.fmt (encBase st.arrays st.batches ps')).1)∧∃Fd' nxt',SysAt M w5 s l d 1 nxt' st (k.fmt (encBase st.arrays st.batches ps')).2 F Fd'∧Own (F++Fd) w (F++Fd') w5∧
  ((k.fmt (encBase st.arrays st.batches ps')).1=0→nxt'=0+1+secsOf (encBase st.arrays st.batches ps')):=fun n hn=>⟨ps',hperm,by rw[hn],Fd3',_,by rw[e1];exact h5,ho04.trans ho5,fun _=>by rw[if_pos hz2]⟩
 refine⟨_,_,rfl,kp5,(h4.dk.out (hXD kf (by simp))),fun hne=>fin _ (by rw[e1]),fun hz3=>?_⟩
 exact fin 0 (by rw[e1];exact hz3.symm)
end Go.Vc
namespace Go.Vc
open Go Go.Proofs
theorem cmpL_lt_trans{x y z:List Int}(h1:cmpL x y<0)(h2:cmpL y z<0):cmpL x z<0:=by
 have h3:=cmpL_trans (x:=x) (y:=y) (z:=z) (by omega) (by omega)
 rcases cmpL_rng x z with h|h|h
 ·omega
 ·have e:=cmpL_zero.1 h
  subst e
  have:=cmpL_swap x y
  omega
 ·omega
theorem cellsE_ok{ds:List Dim}{ats:List Attr}:∀{l:List Cell} {p:Option Cell},cellsE ds ats p l=0→(∀c∈l,cellE ds ats c=0)∧CSorted l∧∀q,p=some q→∀c∈l,cmpL q.at_ c.at_<0
 |[],_,_=>⟨by simp,List.Pairwise.nil,by simp⟩
 |c::r,none,h=>by
  rw[cellsE]at h
  split at h
  ·omega
  rename_i hc
  obtain⟨h1,h2,h3⟩:=cellsE_ok h
  exact⟨fun d hd=>(List.mem_cons.1 hd).elim (fun e=>by rw[e];omega) (h1 d),List.Pairwise.cons (h3 c rfl) h2,fun _ h=>by cases h⟩
 |c::r,some p,h=>by
  rw[cellsE]at h
  split at h
  ·omega
  rename_i hc
  split at h
  ·cases h
  rename_i h0
  split at h
  ·cases h
  rename_i h1'
  obtain⟨h1,h2,h3⟩:=cellsE_ok h
  have hlt:cmpL p.at_ c.at_<0:=by rcases cmpL_rng p.at_ c.at_ with h|h|h<;>omega
  refine⟨fun d hd=>(List.mem_cons.1 hd).elim (fun e=>by rw[e];omega) (h1 d),List.Pairwise.cons (h3 c rfl) h2,fun q hq d hd=>?_⟩
  simp only[Option.some.injEq]at hq
  subst hq
  rcases List.mem_cons.1 hd with rfl|hd
  ·exact hlt
  ·exact cmpL_lt_trans hlt (h3 c rfl d hd)
theorem arrE_ok{x:Arr}(h:arrE x=0):schemaE x.dims x.attrs=0∧x.cells.length≤4096∧(∀c∈x.cells,cellE x.dims x.attrs c=0)∧CSorted x.cells:=by
 unfold arrE at h
 split at h
 ·omega
 split at h
 ·cases h
 obtain⟨h1,h2,_⟩:=cellsE_ok h
 exact⟨by omega,by omega,h1,h2⟩
theorem dbL_ok:∀{db:List Nm} {met:List ByteArray},dbL met db=0→(∀x∈db,nameOk x.name=true∧arrE x.arr=0∧x.name∉met)∧(db.map (·.name)).Nodup
 |[],_,_=>⟨by simp,by simp⟩
 |x::r,met,h=>by
  rw[dbL]at h
  split at h
  ·cases h
  rename_i h1
  split at h
  ·cases h
  rename_i h2
  obtain⟨h3,h4⟩:=dbL_ok h
  simp only[not_or]at h1
  refine⟨fun y hy=>?_,?_⟩
  ·rcases List.mem_cons.1 hy with rfl|hy
   ·exact⟨by simpa using h1.1,by omega,h1.2⟩
   ·have:=h3 y hy
    exact⟨this.1,this.2.1,fun hm=>this.2.2 (by simp[hm])⟩
  ·rw[List.map_cons,List.nodup_cons]
   refine⟨fun hm=>?_,h4⟩
   obtain⟨y,hy,he⟩:=List.mem_map.1 hm
   exact(h3 y hy).2.2 (by simp[he])
theorem dbE_ok{db:List Nm}(h:dbE db=0):db.length≤16∧(∀x∈db,nameOk x.name=true∧arrE x.arr=0)∧(db.map (·.name)).Nodup:=by
 unfold dbE at h
 split at h
 ·cases h
 obtain⟨h1,h2⟩:=dbL_ok h
 exact⟨by omega,fun x hx=>⟨(h1 x hx).1,(h1 x hx).2.1⟩,h2⟩
theorem cellE_ok{ds:List Dim}{ats:List Attr}{c:Cell}(h:cellE ds ats c=0):c.at_.length=ds.length∧c.vals.length=ats.length∧ofB ds c.at_=true∧fitsL ats c.vals=true:=by
 unfold cellE at h
 split at h
 ·cases h
 rename_i h1
 split at h
 ·cases h
 rename_i h2
 split at h
 ·cases h
 rename_i h3
 simp only[not_or,Decidable.not_not]at h1
 exact⟨h1.1,h1.2,by simpa using h2,by simpa using h3⟩
def fmtArr(x:Nm):Nm:=⟨x.name,⟨x.arr.dims,x.arr.attrs,[]⟩⟩
def fmtCs(i:Nat)(l:List Cell):List (Pl×Sta):=l.map fun c=>(plOf i c.at_,⟨0,c.vals⟩)
def fmtPl:Nat→List Nm→List (Pl×Sta)
 |_,[]=>[]
 |i,x::r=>fmtCs i x.arr.cells++fmtPl (i+1) r
theorem fmtPl_app:∀(i:Nat) (l m:List Nm),fmtPl i (l++m)=fmtPl i l++fmtPl (i+l.length) m
 |i,[],m=>by simp[fmtPl]
 |i,x::r,m=>by
  simp only[List.cons_append,fmtPl,fmtPl_app (i+1) r m,List.append_assoc,List.length_cons]
  congr 3
  omega
theorem fmtPl_a:∀{i:Nat} {l:List Nm} {p:Pl×Sta},p∈fmtPl i l→∃j x c,l[j]?=some x∧c∈x.arr.cells∧p=(plOf (i+j:Nat) c.at_,⟨0,c.vals⟩)
 |_,[],_,h=>by simp[fmtPl]at h
 |i,x::r,p,h=>by
  rw[fmtPl,List.mem_append]at h
  rcases h with h|h
  ·obtain⟨c,hc,rfl⟩:=List.mem_map.1 h
   exact⟨0,x,c,rfl,hc,rfl⟩
  ·obtain⟨j,y,c,h1,h2,h3⟩:=fmtPl_a h
   exact⟨j+1,y,c,by simpa using h1,h2,by rw[h3];congr 3;omega⟩
theorem plOf_inj{a:Int}{x y:List Int}(h:plOf a x=plOf a y)(hl:x.length=y.length)(hn:x.length≤4):x=y:=by
 unfold plOf at h
 simp only[Pl.mk.injEq,true_and]at h
 obtain⟨h0,h1,h2,h3⟩:=h
 apply List.ext_getElem hl
 intro i hi1 hi2
 have g:∀(z:List Int) (hz:i<z.length),z.getD i 0=z[i]:=fun z hz=>by simp[List.getD_eq_getElem?_getD,hz]
 rw[←g x hi1,←g y hi2]
 match i,(by omega:i<4) with
 |0,_=>exact h0
 |1,_=>exact h1
 |2,_=>exact h2
 |3,_=>exact h3
theorem fmtPl_nd:∀{i:Nat} {l:List Nm},(∀x∈l,arrE x.arr=0)→((fmtPl i l).map (·.1)).Nodup
 |_,[],_=>by simp[fmtPl]
 |i,x::r,h=>by
  rw[fmtPl,List.map_append,List.nodup_append]
  refine⟨?_,fmtPl_nd fun y hy=>h y (by simp[hy]),?_⟩
  ·obtain⟨hs,_,hc,hso⟩:=arrE_ok (h x (by simp))
   have hd:=dims_14 (sch_dims hs).1
   have e:(fmtCs i x.arr.cells).map (·.1)=x.arr.cells.map fun c=>plOf i c.at_:=by simp[fmtCs]
   rw[e,List.nodup_iff_pairwise_ne,List.pairwise_map]
   refine List.Pairwise.imp_of_mem ?_ hso
   intro c c' hcm hcm' hlt he
   have l1:=(cellE_ok (hc c hcm)).1
   have l2:=(cellE_ok (hc c' hcm')).1
   have:=plOf_inj he (by omega) (by omega)
   rw[this]at hlt
   have:=cmpL_zero.2 (rfl:c'.at_=c'.at_)
   omega
  ·intro a ha b hb hab
   subst hab
   obtain⟨p,hp,rfl⟩:=List.mem_map.1 ha
   obtain⟨q,hq,he⟩:=List.mem_map.1 hb
   obtain⟨c,_,rfl⟩:=List.mem_map.1 hp
   obtain⟨j,y,c',_,_,rfl⟩:=fmtPl_a hq
   have:=congrArg Pl.a he
   simp only[plOf]at this
   omega
def fmtSto(db:List Nm):Sto:=baseSto (db.map fmtArr) [] (fmtPl 0 db)
theorem fmtSto_ok{db:List Nm}(h:dbE db=0)(hne:db.length≠0)(hp:(fmtPl 0 db).length≤4000):StoV (fmtSto db):=by
 obtain⟨h1,h2,h3⟩:=dbE_ok h
 refine⟨?_,?_,?_,?_,?_,?_,?_,?_,?_,hp,?_,fmtPl_nd fun x hx=>(h2 x hx).2,?_,?_⟩
 ·show 1≤(db.map fmtArr).length;simp;omega
 ·show(db.map fmtArr).length≤16;simp;omega
 ·intro x hx
  obtain⟨y,hy,rfl⟩:=List.mem_map.1 (show x∈db.map fmtArr from hx)
  exact(h2 y hy).1
 ·show((db.map fmtArr).map (·.name)).Nodup
  rw[List.map_map]
  exact h3
 ·intro x hx
  obtain⟨y,hy,rfl⟩:=List.mem_map.1 (show x∈db.map fmtArr from hx)
  exact(arrE_ok (h2 y hy).2).1
 ·intro x hx
  obtain⟨y,hy,rfl⟩:=List.mem_map.1 (show x∈db.map fmtArr from hx)
  rfl
 ·show(0:Nat)≤_;omega
 ·intro x hx;exact absurd hx (by show x∉([]:List Seen);simp)
 ·show(([]:List Seen).map (·.token)).Nodup;simp
 ·intro p hpm
  obtain⟨j,x,c,hx,hc,rfl⟩:=fmtPl_a (show p∈fmtPl 0 db from hpm)
  have hxo:=arrE_ok (h2 x (List.mem_of_getElem? hx)).2
  obtain⟨c1,c2,c3,c4⟩:=cellE_ok (hxo.2.2.1 c hc)
  refine⟨by show(0:Int)≤((0+j:Nat):Int);omega,⟨fmtArr x,?_,⟨c.at_,c1,c3,rfl⟩,c4,.inr c2⟩,by show(0:Int)≤0;omega,by show(0:Int)≤_;omega⟩
  show(db.map fmtArr)[((0+j:Nat):Int).toNat]?=_
  rw[show((0+j:Nat):Int).toNat=j from by omega,List.getElem?_map,hx]
  rfl
 ·show(0:Int)≤1+8*((db.map fmtArr).length:Int)+3*((fmtPl 0 db).length:Int)+(([]:List Seen).length:Int);omega
 ·show 1+8*((db.map fmtArr).length:Int)+3*((fmtPl 0 db).length:Int)+(([]:List Seen).length:Int)≤100000
  simp only[List.length_map,List.length_nil]
  omega
end Go.Vc
namespace Go.Vc
open Go Go.Proofs
set_option maxHeartbeats 8000000 in
theorem sFormat_ok{M Mdb Fd:List Nat}{w:World}{d:Nat}{k:Dk}{db:List Nm}{dba:Option Addr}{dbn dbc:Nat}(h:DkAt M w d k Fd)(hd:R (tSl tNm) Mdb w db [.slice dba dbn dbc])(hp:(fmtPl 0 db).length≤4000)(hpl:k.pend.length≤900000)(h2:2≤k.n)
 (hA:dbE db=0→db.length≠0→k.down=false→(fmtSto db).use≤k.half→∀ps',ps'.Perm (fmtPl 0 db)→(k.zero.1=0→AddOk k.zero.2 1 0 1 (encBase (db.map fmtArr) [] ps'))∧(k.zero.1=0→(k.zero.2.add 1 0 1 (encBase (db.map fmtArr) [] ps')).1=0→(k.zero.2.add 1 0 1 (encBase (db.map fmtArr) [] ps')).2.pend.length≤1000000)∧InI .i64 ((k.fmt (encBase (db.map fmtArr) [] ps')).2.st+1)):
 Calls Tryz.prog 20 #[.pointer (some ⟨d,0,none⟩),.slice dba dbn dbc] w fun e w' =>
  if dbE db≠0∨db.length=0 then e=.returned (.tuple #[.pointer none,.int .i64 2])∧KpL [] w w'
  else if k.down=true then e=.returned (.tuple #[.pointer none,.int .i64 17])∧KpL [] w w'
  else if (k.half:Int)<(fmtSto db).use then e=.returned (.tuple #[.pointer none,.int .i64 18])∧KpL [] w w'
  else ∃ps',ps'.Perm (fmtPl 0 db)∧if (k.fmt (encBase (db.map fmtArr) [] ps')).1≠0 then e=.returned (.tuple #[.pointer none,.int .i64 (k.fmt (encBase (db.map fmtArr) [] ps')).1])∧∃Fd',DkAt M w' d (k.fmt (encBase (db.map fmtArr) [] ps')).2 Fd'∧Own Fd w Fd' w'
   else ∃s l F Fd',e=.returned (.tuple #[.pointer (some ⟨s,0,none⟩),.int .i64 0])∧SysAt M w' s l d 1 (0+1+secsOf (encBase (db.map fmtArr) [] ps')) { fmtSto db with id:=(k.fmt (encBase (db.map fmtArr) [] ps')).2.st+1 } { (k.fmt (encBase (db.map fmtArr) [] ps')).2 with st:=(k.fmt (encBase (db.map fmtArr) [] ps')).2.st+1 } F Fd'∧Own Fd w (F++Fd') w':=by
 have hmx:maxSl=140737488355328:=rfl
 obtain⟨rfl,hdn1,hdn2⟩:=hd.sl_len
 have hFM:∀b∈Fd++M,b<w.heap.size:=by
  intro b hb
  rcases List.mem_append.1 hb with hb|hb
  ·exact(h.own_lt b hb).1
  ·exact h.mlt b hb
 obtain⟨ss,hs1,hs2,hs3,hs4⟩:=h.ok.secs
 refine sFormat_vc fun k1 hk1 w1 hw1 hkn1=>⟨(dIs_ok (h.kp0 hw1)).mono ?_⟩
 rintro e w2 ⟨rfl,hw2⟩
 have hk02:=hw1.trans hw2
 refine⟨_,rfl,hw2,fun hc=>by simp at hc,fun _ hkn2=>⟨(database_ok (hd.kp0 hk02)).mono ?_⟩⟩
 rintro e w3 ⟨rfl,hw3⟩
 have hk03:=hk02.trans hw3
 refine⟨_,rfl,hw3,fun hz=>⟨fun hn _=>?_,fun hn hkn3=>⟨k.down,(h.kp0 hk03).cell.1,fun hdn _=>?_,fun hdn hkn3'=>?_⟩⟩,fun hne _=>?_⟩
 ·rw[if_pos (.inr (by omega))];exact⟨rfl,hk03⟩
 ·rw[if_neg (by simp only[not_or];exact⟨hz,by omega⟩),if_pos hdn];exact⟨rfl,hk03⟩
 rotate_left
 ·rw[if_pos (.inl hne)];exact⟨rfl,hk03⟩
 have hz':=Classical.not_not.1 hz
 have hn':db.length≠0:=by omega
 have hv:=fmtSto_ok hz' hn' hp
 obtain⟨hdl,hdx,hdnd⟩:=dbE_ok hz'
 have hA:=hA hz' hn' hdn
 have n1:¬(dbE db≠0∨db.length=0):=by simp only[not_or];exact⟨hz,by omega⟩
 have n2':¬(k.down=true):=by simp[hdn]
 have hk1l:=block_lt hkn3'
 have s03:=hk03.size
 refine ev_box fun w4 hb4 hw4=>⟨_,rfl,[],hw4,⟨by simp⟩,fun hkn4=>?_⟩
 generalize hl_:w3.heap.size=l at *
 have hl4:LogAt w4 l d 1 (0:Nat):=hb4
 have s34:=hw4.size
 have hll:=block_lt hb4
 have hMm:∀b∈k1::l::(Fd++M),b<w4.heap.size:=by
  intro b hb
  simp only[List.mem_cons]at hb
  rcases hb with rfl|rfl|hb
  ·omega
  ·omega
  ·have:=hFM b hb;omega
 refine ev_makeMap (enc:=Pl.enc) (t:=tSta) hMm fun w5 hm5 hw5=>⟨_,rfl,[],hw5,⟨by simp⟩,fun hkn5=>?_⟩
 generalize hm_:w4.heap.size=m at *
 refine ev_box fun w6 hb6 hw6=>⟨_,rfl,[],hw6,⟨by simp⟩,fun k2 hk2=>?_⟩
 generalize hs_:w5.heap.size=s at *
 have s45:=hw5.size
 have s56:=hw6.size
 have hml:=hm5.lt
 have hsl:=block_lt hb6
 have hs6:SC w6 s l 0 none 0 0 (some m) none 0 0 0:=hb6
 have hl6:=(hl4.keep hw5 (by simp)).keep hw6 (by simp)
 have hk06:=((hk03.trans hw4).trans hw5).trans hw6
 have k12:k1≠k2:=by omega
 generalize hN:k1::k2::(Fd++M)=N at *
 have hNl:∀b∈N,b=k2∨b<w4.heap.size:=by
  intro b hb
  rw[←hN]at hb
  simp only[List.mem_cons]at hb
  rcases hb with rfl|rfl|hb
  ·exact .inr (by omega)
  ·exact .inl rfl
  ·exact .inr (by have:=hFM b hb;omega)
 have hsN:s∉N:=fun hm=>by rcases hNl s hm with h|h<;>omega
 have hlN:l∉N:=by
  rw[←hN]
  simp only[List.mem_cons,not_or]
  exact⟨by omega,by omega,fun hm=>by have:=hFM l hm;omega⟩
 have hmN:m∉N:=fun hm=>by rcases hNl m hm with h|h<;>omega
 refine⟨fun vs w'=>∃(i:Nat) (a:Option Addr) (n c:Nat),vs=[.int .i64 (i:Int)]∧i≤db.length∧KpL [] w w'∧SC w' s l 0 a n c (some m) none 0 0 0∧LogAt w' l d 1 (0:Nat)∧Acc tNm (s::l::m::N) w' ((db.take i).map fmtArr) a n c∧(∀b∈blkL a,w.heap.size≤b)∧MapAt Pl.enc tSta (s::l::(blkL a++N)) w' m (fmtPl 0 (db.take i)),
  fun vs _=>match vs with|[.int _ i]=>db.length - i.toNat|_=>0,fun w7 hw7 hkn7=>⟨0,none,0,0,rfl,by omega,hk06.trans hw7,hs6.keep hw7 (by simp),hl6.keep hw7 (by simp),Acc.nil' _ fun b hb=>?_,by simp[blkL],?_⟩,?_⟩
 ·have:=hw7.size
  have hk2l:=block_lt hkn7.1
  simp only[List.mem_cons]at hb
  rcases hb with rfl|rfl|rfl|hb
  ·omega
  ·omega
  ·omega
  ·rcases hNl b hb with rfl|hb<;>omega
 ·refine hm5.step (hw6.trans hw7) (by simp) fun b hb=>?_
  rw[←hN]at hb
  simp only[blkL,List.nil_append,List.mem_cons]at hb ⊢
  rcases hb with rfl|rfl|rfl|rfl|hb
  ·exact .inr (by omega)
  ·exact .inl (by simp)
  ·exact .inl (by simp)
  ·exact .inr (by omega)
  ·exact .inl (by simp[hb])
 rintro n2 w8 ⟨i,a,n,c,hvs,hi,hk8,hs8,hl8,hA8,hnew8,hm8⟩
 simp only[List.cons.injEq,Value.int.injEq,true_and,and_true]at hvs
 subst hvs
 have s08:=hk8.size
 constructor
 ·intro hlt
  have gi:i<db.length:=by omega
  have hlA:=hA8.len
  rw[List.length_map,List.length_take,Nat.min_eq_left hi]at hlA
  obtain⟨ad,cs,rfl,hv1,hld1,_,_⟩:=hd.sl_get gi
  obtain⟨b1,p1,q1,b2,p2,q2,b3,p3,q3,rfl,hsz,hx1,hx2,hx3⟩:=hv1.nm
  obtain⟨hp3,_,hq3⟩:=hx3.sl_len
  subst hp3
  have hxm:=List.getElem_mem gi
  have hao:=arrE_ok (hdx _ hxm).2
  have htk:db.take (i+1)=db.take i++[db[i]]:=(List.take_append_getElem gi).symm
  have hfp:fmtPl 0 (db.take (i+1))=fmtPl 0 (db.take i)++fmtCs i db[i].arr.cells:=by
   rw[htk,fmtPl_app];simp[fmtPl,Nat.min_eq_left hi]
  have hnd:=fmtPl_nd (i:=0) (l:=db.take (i+1)) fun x hx=>(hdx x (List.mem_of_mem_take hx)).2
  rw[hfp]at hnd
  generalize db[i]=x at *
  have hkl2:k2<w8.heap.size∨True:=.inr trivial
  refine⟨ad,rfl,by omega,hlt,fun hkn8=>⟨_,_,_,_,_,_,_,_,_,_,hld1.kp hk8,fun _=>ev_alloc (z:=[.string ByteArray.empty,.slice none 0 0,.slice none 0 0,.slice none 0 0]) ⟨_,fun w=>zero_of (z:=.agg #[.string ByteArray.empty,.slice none 0 0,.slice none 0 0,.slice none 0 0]) (by kernel_rfl) w,rfl⟩ fun w9 hb9 hw9=>⟨_,rfl,[],hw9,⟨⟨by simp⟩,⟨by simp⟩⟩,fun hkn9=>⟨⟨[_,_,_,_],ldA_blk hb9 0 _ rfl,rfl⟩,notFrozen hb9,?_,?_⟩⟩⟩⟩
  ·have:=block_lt hkn8.1;have:=block_lt hkn8.2;exact⟨⟨by simp;omega⟩,⟨by simp;omega⟩⟩
  rintro w10 rfl hkn10
  have hk2l8:=block_lt hkn8.1
  have hk1l8:=block_lt hkn8.2
  have hb10:=stA_ld (off:=0) (l:=[.string x.name,.slice b1 p1 q1,.slice b2 p2 q2,.slice b3 x.arr.cells.length q3]) hb9 (by simp)
  have hkS9:=stA_kp w9 ⟨w8.heap.size,0,none⟩ [Value.string x.name,.slice b1 p1 q1,.slice b2 p2 q2,.slice b3 x.arr.cells.length q3]
  generalize hw10:stA w9 ⟨w8.heap.size,0,none⟩ [Value.string x.name,.slice b1 p1 q1,.slice b2 p2 q2,.slice b3 x.arr.cells.length q3] 0=w10 at *
  generalize hv8:w8.heap.size=v8 at *
  have hk810:KpL [] w8 w10:=hw9.more hkS9 (by simp;omega)
  have s10:=hk810.size
  have hMl10:∀b∈blkL a++(s::l::m::N),b<w10.heap.size:=by
   intro b hb
   rcases List.mem_append.1 hb with hb|hb
   ·have:=(hA8.blk_lt b hb).1;omega
   ·have:=hA8.mlt b hb;omega
  refine⟨_,_,_,by rw[addr0,add_lit];exact ldA_blk hb10 1 [_] rfl,fun _=>⟨_,_,_,by rw[add_lit,add_lit];exact ldA_blk hb10 2 [_] rfl,fun _=>⟨(make_ok (M:=blkL a++(s::l::m::N)) (cells:=[]) hMl10 (hx1.kp0 (hk8.trans hk810)) (hx2.kp0 (hk8.trans hk810)) (R.sl_nil _ [] _ _ _) hao.1 (by simp) (by simp) (by simp)).mono ?_⟩⟩⟩
  rintro e w11 ⟨c1,p1',q1',c2,p2',q2',c3,p3',q3',cells',rfl,hw11,hpm,_,g1,g2,g3⟩
  have hc0:cells'=[]:=List.perm_nil.1 hpm
  subst hc0
  have s11:=hw11.size
  refine⟨_,_,_,_,_,_,_,_,_,_,rfl,hw11,fun hkn11=>ev_alloc (z:=[.slice none 0 0,.slice none 0 0,.slice none 0 0]) ⟨_,fun w=>zero_of (z:=.agg #[.slice none 0 0,.slice none 0 0,.slice none 0 0]) (by kernel_rfl) w,rfl⟩ fun w12 hb12 hw12=>⟨_,rfl,[],hw12,⟨⟨by simp⟩,⟨by simp⟩⟩,fun hkn12=>⟨⟨[_,_,_],ldA_blk hb12 0 _ rfl,rfl⟩,notFrozen hb12,⟨⟨by simp;omega⟩,⟨by simp;omega⟩⟩,?_⟩⟩⟩
  rintro w13 rfl
  have hb13:=stA_ld (off:=0) (l:=[.slice c1 p1' q1',.slice c2 p2' q2',.slice c3 p3' q3']) hb12 (by simp)
  have hkS12:=stA_kp w12 ⟨w11.heap.size,0,none⟩ [Value.slice c1 p1' q1',.slice c2 p2' q2',.slice c3 p3' q3']
  generalize hw13:stA w12 ⟨w11.heap.size,0,none⟩ [Value.slice c1 p1' q1',.slice c2 p2' q2',.slice c3 p3' q3'] 0=w13 at *
  generalize hv11:w11.heap.size=v11 at *
  have hk1113:KpL [v11] w11 w13:=(hw12.mono (by simp)).trans hkS12
  have hk1013:KpL [] w10 w13:=hw11.more hk1113 (by simp;omega)
  have hk813:=hk810.trans hk1013
  have s13:=hk1113.size
  have hs13:=hs8.keep hk813 (by simp)
  have hb13':w13.heap[v8]?=_:=(hk1013.blk v8 (block_lt hb10) (by simp)).trans hb10
  refine⟨fun hc=>absurd rfl hc,fun _=>⟨_,_,_,hs13.ld2,_,by rw[addr0];exact ldA_blk hb13' 0 [_] rfl,_,_,_,_,_,_,_,_,_,ldA_blk hb13 0 _ rfl,fun k27 hk27 w14 hw14 hkn14=>?_⟩⟩
  have hk814:=hk813.trans hw14
  have s14:=hw14.size
  have up:∀{α:Type} {t:Ty α} {x:α} {cs:List Value},R t (blkL a++(s::l::m::N)) w11 x cs→R t (blkL a++(s::l::m::N)) w14 x cs:=fun hr=>hr.oldN (hk1113.trans (hw14.mono (by simp))) (by simp;omega) fun b hb=>.inl hb
  have hsA:s∉blkL a:=fun hm=>(hA8.blk_lt s hm).2 (by simp)
  have hmA:m∉blkL a:=fun hm=>(hA8.blk_lt m hm).2 (by simp)
  have hlA':l∉blkL a:=fun hm=>(hA8.blk_lt l hm).2 (by simp)
  refine ev_append1 apNm (hA8.kp0 hk814) hkn14.1 (R.mkNm (c:=fmtArr x) hsz (up g1) (up g2) (up g3)) (by omega) fun a13 c13 w15 hC=>⟨_,_,_,rfl,_,hC.kp,⟨⟨fun hm=>by have:=(hA8.blk_lt _ hm).1;omega⟩,⟨fun hm=>by have:=(hA8.blk_lt _ hm).2;exact this (by rw[←hN];simp)⟩,⟨fun hm=>by have:=(hA8.blk_lt _ hm).2;exact this (by rw[←hN];simp)⟩⟩,fun hkn15=>⟨⟨ldA_blk hkn15.2.1 0 [_] rfl,trivial⟩,fun _=>?_⟩⟩
  have hs15:=(hs8.keep hk814 (by simp)).keep hC.kp hsA
  have hkS:=hs15.kpS 2 (.slice a13 (n+1) c13)
  have hs16:=hs15.set2 a13 (n+1) c13
  refine⟨⟨_,hs15.ld2,rfl⟩,hs15.nf 2,⟨⟨by simp;have:=block_lt hs8;omega⟩,⟨by simp;rintro rfl;exact hsN (by rw[←hN];simp)⟩,⟨by simp;rintro rfl;exact hsN (by rw[←hN];simp)⟩⟩,?_⟩
  rintro w16 rfl hkn16
  generalize hw16:stA w15 ((⟨s,0,none⟩:Addr).add 2) [.slice a13 (n+1) c13] 0=w16 at *
  have hk16:KpL [] w w16:=((hk8.trans hk814).more hC.kp fun b hb=>.inr (hnew8 b hb)).more hkS (by simp;have:=hk06.size;omega)
  have hv8s:v8∉blkL a:=fun hm=>by have:=(hA8.blk_lt _ hm).1;omega
  have hb16:w16.heap[v8]?=_:=(hkS.blk v8 (by have:=block_lt hb13';have:=hC.kp.size;omega) (by simp;have:=block_lt hs8;omega)).trans ((hC.kp.blk v8 (by have:=block_lt hb13';omega) hv8s).trans ((hw14.blk v8 (block_lt hb13') (by simp)).trans hb13'))
  have hl16:LogAt w16 l d 1 (0:Nat):=((hl8.keep hk814 (by simp)).keep hC.kp hlA').keep hkS (by simp;omega)
  have hA16:Acc tNm (s::l::m::N) w16 ((db.take (i+1)).map fmtArr) a13 (n+1) c13:=by
   rw[htk,List.map_append]
   exact hC.acc.kp hkS (by simp)
  have hnew16:∀b∈blkL a13,w.heap.size≤b:=fun b hb=>(hC.own b hb).elim (hnew8 b) fun h=>by have:=hk814.size;omega
  have hm16:MapAt Pl.enc tSta (s::l::(blkL a13++N)) w16 m (fmtPl 0 (db.take i)):=by
   refine((hm8.step hk814 (by simp) fun b hb=>.inl hb).step hC.kp (fun b hb=>by simp[hb]) (M':=s::l::(blkL a13++N)) fun b hb=>?_).step hkS (by simp) fun b hb=>.inl hb
   simp only[List.mem_cons,List.mem_append]at hb ⊢
   rcases hb with rfl|rfl|hb|hb
   ·exact .inl (.inl rfl)
   ·exact .inl (.inr (.inl rfl))
   ·exact(hC.own b hb).imp (fun h=>.inr (.inr (.inl h))) id
   ·exact .inl (.inr (.inr (.inr hb)))
  have dec:db.length - ((i:Int)+1).toNat<db.length - (i:Int).toNat:=by omega
  have s16:=hk16.size
  have hk27l:=block_lt hkn16.1
  have hk2l16:=block_lt hkn16.2.1
  have hk1l16:=block_lt hkn16.2.2
  refine⟨_,_,_,by rw[add_lit,add_lit];exact ldA_blk hb16 3 [_] rfl,fun vs w'=>∃(j:Nat),vs=[.int .i64 (j:Int)]∧j≤x.arr.cells.length∧KpL [] w w'∧SC w' s l 0 a13 (n+1) c13 (some m) none 0 0 0∧LogAt w' l d 1 (0:Nat)∧Acc tNm (s::l::m::N) w' ((db.take (i+1)).map fmtArr) a13 (n+1) c13∧MapAt Pl.enc tSta (s::l::(blkL a13++N)) w' m (fmtPl 0 (db.take i)++fmtCs i (x.arr.cells.take j)),
   fun vs _=>match vs with|[.int _ i]=>x.arr.cells.length - i.toNat|_=>0,fun _=>⟨0,rfl,by omega,hk16,hs16,hl16,hA16,by simpa[fmtCs]using hm16⟩,?_⟩
  rintro n4 w17 ⟨j,hvs,hj,hk17,hs17,hl17,hA17,hm17⟩
  simp only[List.cons.injEq,Value.int.injEq,true_and,and_true]at hvs
  subst hvs
  have s17:=hk17.size
  constructor
  ·intro hjl
   have gj:j<x.arr.cells.length:=by omega
   have hce:=hao.2.2.1 _ (List.getElem_mem gj)
   obtain⟨ad6,cs6,rfl,hv6,hld6,_,_⟩:=(hx3.kp0 hk17).sl_get gj
   obtain⟨a15,k32,k33,a16,k34,k35,rfl,y1,y2⟩:=hv6.cell
   have htj:x.arr.cells.take (j+1)=x.arr.cells.take j++[x.arr.cells[j]]:=(List.take_append_getElem gj).symm
   have hkey:plOf i x.arr.cells[j].at_∉(fmtPl 0 (db.take i)++fmtCs i (x.arr.cells.take j)).map (·.1):=by
    intro hm
    have hnd':=hnd
    have e5:fmtCs i x.arr.cells=fmtCs i (x.arr.cells.take j)++fmtCs i (x.arr.cells[j]::x.arr.cells.drop (j+1)):=by
     unfold fmtCs
     rw[←List.map_append,←List.drop_eq_getElem_cons gj,List.take_append_drop]
    rw[e5,←List.append_assoc,List.map_append,List.nodup_append]at hnd'
    exact hnd'.2.2 _ hm _ (List.mem_map.2 ⟨_,List.mem_map.2 ⟨x.arr.cells[j],List.mem_cons_self,rfl⟩,rfl⟩) rfl
   generalize x.arr.cells[j]=cc at *
   obtain⟨e1,e2,e3,e4⟩:=cellE_ok hce
   have h14:=dims_14 (sch_dims hao.1).1
   have hsd:=sch_dims hao.1
   obtain⟨y2l,_,_⟩:=y2.sl_len
   refine⟨ad6,rfl,by omega,hjl,fun hkn17=>⟨_,_,_,_,_,_,hld6,fun k36 hk36=>⟨_,hs17.ld3,fun w18 hw18 hkn18=>⟨(key_ok (x:=(i:Int)) (y1.kp0 hw18) (by omega)).mono ?_⟩⟩⟩⟩
   rintro e w19 ⟨rfl,hw19⟩
   generalize hpp:plOf (i:Int) cc.at_=p at *
   refine⟨p.a,p.p0,p.p1,p.p2,p.p3,rfl,hw19,fun hkn19=>?_⟩
   have hk1719:=hw18.trans hw19
   have s1719:=hk1719.size
   have hm19:=hm17.step hk1719 (by simp) (M':=s::l::(blkL a13++N)) fun b hb=>.inl hb
   have hMv:∀b∈m::s::l::(blkL a13++N),b<w19.heap.size:=by
    intro b hb
    simp only[List.mem_cons,List.mem_append]at hb
    rcases hb with rfl|rfl|rfl|hb|hb
    ·exact hm19.lt
    ·have:=hA17.mlt b (by simp);omega
    ·have:=hA17.mlt b (by simp);omega
    ·have:=(hA17.blk_lt b hb).1;omega
    ·have:=hA17.mlt b (by simp[hb]);omega
   refine⟨(clone77_ok (M:=m::s::l::(blkL a13++N)) hMv (by omega) (y2.kp0 hk1719)).mono ?_⟩
   rintro e w20 ⟨a17,k37,k38,rfl,hV⟩
   have hRv:=hV.acc.done (by have:=hV.acc.len;omega)
   refine⟨_,_,_,rfl,hV.kpn,fun hkn20=>?_⟩
   have hk1720:=hk1719.trans hV.kpn
   have hm20:=hm17.step hk1720 (by simp) (M':=s::l::(blkL a13++N)) fun b hb=>.inl hb
   have hsta:R tSta (m::s::l::(blkL a13++N)) w20 ⟨0,cc.vals⟩ [.int .i64 0,.slice a17 k37 k38]:=R.mkSta (ini_i64.2 (by simp)) hRv
   have hml17:=hm17.lt
   have s4w:w4.heap.size≤w.heap.size∨True:=.inr trivial
   have hm13:m∉blkL a13:=fun hm=>(hA17.blk_lt m hm).2 (by simp)
   refine ev_mapUpdate (enc:=Pl.enc) (v:=⟨0,cc.vals⟩) keyPl u114 hm20 p hsta fun w21 hm21 hw21=>⟨rfl,[m],hw21,⟨⟨by simp;omega⟩,⟨by simp;rintro rfl;omega⟩,⟨by simp;rintro rfl;exact hmN (by rw[←hN];simp)⟩,⟨by simp;rintro rfl;exact hmN (by rw[←hN];simp)⟩⟩,ini_i64.2 (by omega),fun _=>⟨⟨j+1,rfl,by omega,?_,?_,?_,?_,?_⟩,by dsimp only;omega⟩⟩
   ·exact(hk17.trans hk1720).more hw21 (by simp;have:=hk03.size;have:=hw4.size;omega)
   ·exact(hs17.keep hk1720 (by simp)).keep hw21 (by simp;omega)
   ·exact(hl17.keep hk1720 (by simp)).keep hw21 (by simp;omega)
   ·exact(hA17.kp0 hk1720).kp hw21 (by simp)
   ·rw[putM_new hkey]at hm21
    rw[htj]
    have:fmtPl 0 (db.take i)++fmtCs i (x.arr.cells.take j++[cc])=fmtPl 0 (db.take i)++fmtCs i (x.arr.cells.take j)++[(p,⟨0,cc.vals⟩)]:=by
     unfold fmtCs
     rw[List.map_append,List.append_assoc]
     simp[hpp]
    rw[this]
    exact hm21
  ·intro hjg
   have hje:j=x.arr.cells.length:=by omega
   subst hje
   rw[List.take_length]at hm17
   refine⟨ini_i64.2 (by omega),fun _=>⟨⟨i+1,a13,n+1,c13,rfl,by omega,hk17,hs17,hl17,hA17,hnew16,by rw[hfp];exact hm17⟩,dec⟩⟩
 ·intro hge w22 hw22 hkn22
  have hie:i=db.length:=by omega
  subst hie
  rw[List.take_length]at hA8 hm8
  have hk22:=hk8.trans hw22
  have s22:=hw22.size
  have hs22:=hs8.keep hw22 (by simp)
  have hlM:(db.map fmtArr).length=db.length:=by simp
  have hInAt:∀(u:Int) {w':World},InI .i64 u→SC w' s l 0 a n c (some m) none 0 0 u→KpL [s] w22 w'→StoIn N w' s l ⟨0,db.map fmtArr,fmtPl 0 db,[],u⟩ m a n c none 0 0:=by
   intro u w' hu hsc hk
   have hA22:=hA8.kp0 hw22
   have hAd:=(hA22.done (by have:=hA8.len;simp at this;omega)).kp hk (by simp)
   have hm22:=(hm8.step hw22 (by simp) (M':=s::l::(blkL a++N)) fun b hb=>.inl hb).step hk (by simp) (M':=s::l::(blkL none++N)) fun b hb=>.inl (by simp[blkL]at hb ⊢;rcases hb with rfl|rfl|hb<;>simp[*])
   refine⟨hsc,hAd.weak fun b hb=>by simpa[blkL]using hb,hm22,Acc.nil' _ fun b hb=>?_,by omega,hsN,hlN,ini_i64.2 (by simp),hu,fun p hpm=>plOf_ini (hv.pls p hpm) hv.sch (by show(db.map fmtArr).length≤1000;omega)⟩
   have:=hA22.mlt b hb
   have:=hk.size
   omega
  have hl22:=hl8.keep hw22 (by simp)
  have hu0:InI .i64 (0:Int):=ini_i64.2 (by omega)
  refine⟨(compacted_ok (st:=⟨0,db.map fmtArr,fmtPl 0 db,[],0⟩) ⟨m,a,n,c,none,0,0,hInAt 0 hu0 hs22 (KpL.refl _ _),hl22,rfl⟩ (by show(db.map fmtArr).length≤_;omega) (by show(fmtPl 0 db).length≤_;omega) (by show(0:Nat)≤_;omega)).mono ?_⟩
  rintro e w23 ⟨rfl,hw23⟩
  have hus:1+8*((db.map fmtArr).length:Int)+3*((fmtPl 0 db).length:Int)+(([]:List Seen).length:Int)=(fmtSto db).use:=rfl
  rw[hus]
  have hs23:=hs22.keep hw23 (by simp)
  have hkS:=hs23.kpS 5 (.int .i64 (fmtSto db).use)
  have hs24:=hs23.set5 (fmtSto db).use
  have hk1l23:k1<w8.heap.size:=by have:=hk06.size;have:=hA8.mlt k1 (by rw[←hN];simp);omega
  have hk2l23:k2<w8.heap.size:=hA8.mlt k2 (by rw[←hN];simp)
  have hsk:s≠k1∧s≠k2:=⟨by rintro rfl;exact hsN (by rw[←hN];simp),by rintro rfl;exact hsN (by rw[←hN];simp)⟩
  refine⟨_,rfl,hw23,fun hkn23=>⟨⟨_,hs23.ld5,rfl⟩,hs23.nf 5,⟨⟨by simp;exact Ne.symm hsk.2⟩,⟨by simp;exact Ne.symm hsk.1⟩⟩,?_⟩⟩
  rintro w24 rfl
  generalize hw24:stA w23 ((⟨s,0,none⟩:Addr).add 5) [.int .i64 (fmtSto db).use] 0=w24 at *
  have hk2224:KpL [s] w22 w24:=(hw23.mono (by simp)).trans hkS
  have s24:=hk2224.size
  have hsge:w.heap.size≤s:=by have:=hk03.size;have:=hw4.size;omega
  have hk24:KpL [] w w24:=hk22.more hk2224 (by simp;omega)
  have hSt24:StoreAt N w24 s l d 1 (0:Nat) (fmtSto db) (s::l::m::blkL none):=⟨m,a,n,c,none,0,0,hInAt _ (ini_i64.2 (by have:=hv.u0;have:=hv.u1;omega)) hs24 hk2224,hl22.keep hk2224 (by simp;omega),rfl⟩
  refine⟨_,hs24.ld5,fun w25 hw25 hkn25=>⟨(dHalf_ok (h.kp0 (hk24.trans hw25)) (by unfold Dk.secs;omega)).mono ?_⟩⟩
  rintro e w26 ⟨rfl,hw26⟩
  have hk2426:=hw25.trans hw26
  refine⟨_,rfl,hw26,fun hlt _=>?_,fun hge2 hkn26=>⟨_,by rw[add_lit];exact ldA_blk (hs24.keep hk2426 (by simp)) 0 [_] rfl,fun kf hkf w27 hw27 hkn27=>?_⟩⟩
  ·rw[if_neg n1,if_neg n2',if_pos hlt]
   exact⟨rfl,hk24.trans hk2426⟩
  have hk2427:=hk2426.trans hw27
  have hk27:=hk24.trans hk2427
  have s27:=hk2427.size
  have hkfl:=block_lt hkn27.1
  have hge':¬((k.half:Int)<(fmtSto db).use):=hge2
  have hA':=hA (by omega)
  have s2426:=hk2426.size
  generalize hFF:s::l::m::blkL none=F at *
  have hFn:∀b∈F,w.heap.size≤b:=by
   intro b hb
   have:=hk03.size
   have:=hw4.size
   rw[←hFF]at hb
   simp[blkL]at hb
   rcases hb with rfl|rfl|rfl<;>omega
  have hSt27:StoreAt (Fd++(kf::k1::k2::M)) w27 s l d 1 (0:Nat) (fmtSto db) F:=hSt24.step hk2427 (by simp) fun b hb=>by
   have hb':b=kf∨b∈N:=by
    rw[←hN]
    simp only[List.mem_append,List.mem_cons]at hb ⊢
    rcases hb with hb|rfl|rfl|rfl|hb
    ·exact .inr (.inr (.inr (.inl hb)))
    ·exact .inl rfl
    ·exact .inr (.inl rfl)
    ·exact .inr (.inr (.inl rfl))
    ·exact .inr (.inr (.inr (.inr hb)))
   rcases hb' with rfl|hb'
   ·exact⟨.inr (by omega),hkfl⟩
   ·exact⟨.inl hb',by have:=hSt24.mlt b hb';omega⟩
  have hD27:DkAt (F++(kf::k1::k2::M)) w27 d k Fd:=h.step hk27 (by simp) fun b hb=>by
   rcases List.mem_append.1 hb with hb|hb
   ·exact⟨.inr (hFn b hb),(hSt27.own_lt b hb).1⟩
   ·refine⟨?_,hSt27.mlt b (List.mem_append_right _ hb)⟩
    simp only[List.mem_cons]at hb
    rcases hb with rfl|rfl|rfl|hb
    ·exact .inr (by have:=hk24.size;omega)
    ·exact .inr hk1
    ·exact .inr (by have:=hk03.size;have:=hw4.size;omega)
    ·exact .inl hb
  have hSys:SysAt (kf::k1::k2::M) w27 s l d 1 0 (fmtSto db) k F Fd:=⟨hSt27,hD27⟩
  have hOwn:=hSys.own_lt
  refine⟨(fmtSteps (kf:=kf) (vd:=k1) (vs:=k2) hSys hv hpl (by simp) (fun ps' hp'=>(hA' ps' hp').1) (fun ps' hp'=>(hA' ps' hp').2.1) hkn27.1 hkn27.2.2 hkn27.2.1).mono ?_⟩
  rintro e w28 ⟨ps',hperm,rfl,Fd',nxt',hSys',hO,hnx⟩
  have nk2:k2∉F++Fd:=fun hm=>(hOwn k2 hm).2 (by simp)
  have nk1:k1∉F++Fd:=fun hm=>(hOwn k1 hm).2 (by simp)
  have eenc:encBase (fmtSto db).arrays (fmtSto db).batches ps'=encBase (db.map fmtArr) [] ps':=rfl
  rw[eenc]at hSys' hnx ⊢
  generalize hr:k.fmt (encBase (db.map fmtArr) [] ps')=r at *
  have hOw:Own Fd w (F++Fd') w28:=by
   refine⟨(KpL.refl _ _ |>.trans (hk27.mono (by simp))).more hO.kp fun b hb=>?_,fun b hb=>?_⟩
   ·rcases List.mem_append.1 hb with hb|hb
    ·exact .inr (hFn b hb)
    ·exact .inl hb
   ·rcases hO.new b hb with hb|hb
    ·rcases List.mem_append.1 hb with hb|hb
     ·exact .inr (hFn b hb)
     ·exact .inl hb
    ·exact .inr (by have:=hk27.size;omega)
  refine⟨_,rfl,_,hO.kp,⟨⟨nk2⟩,⟨nk1⟩⟩,fun hne _=>?_,fun hz2 hkn28=>⟨(opened_ok (hSys'.weak (M':=M) (by simp;intro b hb;simp[hb])).sto (hSys'.weak (M':=M) (by simp;intro b hb;simp[hb])).dk ?_).mono ?_⟩⟩
  ·rw[if_neg n1,if_neg n2',if_neg hge']
   refine⟨ps',hperm,?_⟩
   rw[hr,if_pos hne]
   refine⟨rfl,Fd',(hSys'.dk.weak fun b hb=>by simp[hb]),⟨hOw.kp,fun b hb=>hOw.new b (by simp[hb])⟩⟩
  ·have:=(hA' ps' hperm).2.2
   rw[hr]at this
   exact this
  ·rintro e w29 ⟨rfl,hS29,hD29,hO29⟩
   have nk:∀x∈[k1,k2],x∉F++Fd':=fun x hx hm=>(hSys'.own_lt x hm).2 (by simp at hx;rcases hx with rfl|rfl<;>simp)
   refine⟨_,rfl,_,hO29.kp,⟨⟨nk k2 (by simp)⟩,⟨nk k1 (by simp)⟩⟩,fun _=>?_⟩
   rw[if_neg n1,if_neg n2',if_neg hge']
   refine⟨ps',hperm,?_⟩
   rw[hr,if_neg hz2]
   have hnx':=hnx (Classical.not_not.1 hz2)
   subst hnx'
   exact⟨s,l,F,Fd',rfl,⟨hS29,hD29⟩,hOw.trans hO29⟩
end Go.Vc
namespace Go.Vc
open Go Go.Proofs
structure Cl (k:Dk):Prop where
 on:k.down=false
 fu:k.fuse = -1
 len:k.now.length=64*k.n
theorem tear_sec{l b:List Int}{i:Nat}(hi:i*64+64≤l.length)(hb:b.length=64):secOf (tear1 l i b 0 64) i=b∧(∀j,j≠i→secOf (tear1 l i b 0 64) j=secOf l j)∧(tear1 l i b 0 64).length=l.length:=by
 have e:tear1 l i b 0 64=l.take (i*64)++(b++l.drop (i*64+64)):=by
  unfold tear1
  simp[hb,List.take_of_length_le]
 rw[e]
 unfold secOf
 refine⟨?_,fun j hj=>?_,by simp[hb];omega⟩
 ·rw[List.drop_append,List.drop_eq_nil_of_le (by simp;omega),List.nil_append]
  have:i*64 - (l.take (i*64)).length=0:=by simp;omega
  rw[this,List.drop_zero,List.take_append,hb,Nat.sub_self,List.take_zero,List.append_nil,List.take_of_length_le (by omega)]
 ·apply List.ext_getElem?
  intro m
  simp only[List.getElem?_take,List.getElem?_drop]
  split
  ·rename_i hm
   rw[List.getElem?_append]
   split
   ·rename_i h1
    rw[List.getElem?_take,if_pos (by simp at h1;omega)]
   ·rename_i h1
    simp only[List.length_take]at h1
    have h2:i*64≤j*64+m:=by omega
    have h3:i*64+64≤j*64+m:=by
     rcases Nat.lt_or_gt_of_ne hj with h|h
     ·omega
     ·omega
    rw[List.getElem?_append_right (by simp[hb];omega),List.getElem?_drop]
    congr 1
    simp[hb]
    omega
  ·rfl
theorem Cl.write{k:Dk}(h:Cl k){i:Nat}{b:List Int}(hi:i<k.n)(hb:b.length=64):
 (k.write i b).1=0∧Cl (k.write i b).2∧(k.write i b).2.n=k.n∧(k.write i b).2.st=k.st∧secOf (k.write i b).2.now i=b∧(∀j,j≠i→secOf (k.write i b).2.now j=secOf k.now j)∧(k.write i b).2.pend.length=k.pend.length+1:=by
 have hl:=h.len
 have e:k.write i b=(0,k.put i b):=by
  unfold Dk.write
  rw[if_neg (by simp[h.on])]
  have e1:(k.put i b).fails=(false,k.put i b):=by
   unfold Dk.fails
   have:(k.put i b).fuse = -1:=h.fu
   rw[if_neg (by omega),if_neg (by omega)]
  rw[e1]
  simp
 rw[e]
 obtain⟨t1,t2,t3⟩:=tear_sec (l:=k.now) (i:=i) (by omega) hb
 exact⟨rfl,⟨h.on,h.fu,t3.trans hl⟩,rfl,rfl,t1,t2,by simp[Dk.put]⟩
theorem Cl.sync{k:Dk}(h:Cl k):k.sync.1=0∧Cl k.sync.2∧k.sync.2.n=k.n∧k.sync.2.st=k.st∧k.sync.2.now=k.now∧k.sync.2.pend=[]:=by
 have e1:k.fails=(false,k):=by
  unfold Dk.fails
  have:=h.fu
  rw[if_neg (by omega),if_neg (by omega)]
 have e:k.sync=(0,{ k with dur:=k.now,pend:=[] }):=by
  unfold Dk.sync
  rw[if_neg (by simp[h.on]),e1]
  simp
 rw[e]
 exact⟨rfl,⟨h.on,h.fu,h.len⟩,rfl,rfl,rfl,rfl⟩
theorem Cl.add1L{at0:Nat}{b:List Int}:∀{f i:Nat} {k:Dk},Cl k→at0+i+f≤k.n→
 (Dk.add1L at0 b f i k).1=0∧Cl (Dk.add1L at0 b f i k).2∧(Dk.add1L at0 b f i k).2.n=k.n∧(Dk.add1L at0 b f i k).2.st=k.st∧(∀j,i≤j→j<i+f→secOf (Dk.add1L at0 b f i k).2.now (at0+j)=part_ b j)∧
 (∀j,j<at0+i∨at0+i+f≤j→secOf (Dk.add1L at0 b f i k).2.now j=secOf k.now j)∧(Dk.add1L at0 b f i k).2.pend=[]
 |0,i,k,h,hn=>by
  rw[Dk.add1L]
  obtain⟨s1,s2,s3,s4,s5,s6⟩:=h.sync
  exact⟨s1,s2,s3,s4,fun j h1 h2=>by omega,fun j _=>by rw[s5],s6⟩
 |f+1,i,k,h,hn=>by
  obtain⟨w1,w2,w3,w4,w5,w6,w7⟩:=h.write (i:=at0+i) (b:=part_ b i) (by omega) (part_len b i)
  rw[Dk.add1L,if_neg (by simp[w1])]
  obtain⟨r1,r2,r3,r4,r5,r6,r7⟩:=Cl.add1L (at0:=at0) (b:=b) (f:=f) (i:=i+1) w2 (by omega)
  refine⟨r1,r2,r3.trans w3,r4.trans w4,fun j h1 h2=>?_,fun j hj=>?_,r7⟩
  ·by_cases hj:j=i
   ·subst hj
    rw[r6 (at0+j) (by omega),w5]
   ·exact r5 j (by omega) (by omega)
  ·rw[r6 j (by omega),w6 j (by omega)]
theorem headOf_len(q:Int)(n:Nat):(headOf q n).length=64:=by simp[headOf]
theorem Cl.base_le{k:Dk}{num:Int}(hnum:0≤num)(hn:2≤k.n){i:Nat}(hi:i<k.half):k.base num+i<k.n:=by
 unfold Dk.base
 unfold Dk.half Dk.secs at hi ⊢
 have:(num%2).toNat≤1:=by omega
 rcases Nat.lt_or_ge (num%2).toNat 1 with h|h
 ·have:(num%2).toNat=0:=by omega
  rw[this];omega
 ·have:(num%2).toNat=1:=by omega
  rw[this];omega
theorem Cl.add{k:Dk}(h:Cl k){num:Int}{nxt:Nat}{q:Int}{b:List Int}(hnum:0≤num)(hn:2≤k.n)(hfit:nxt+secsOf b<k.half):
 (k.add num nxt q b).1=0∧Cl (k.add num nxt q b).2∧(k.add num nxt q b).2.n=k.n∧(k.add num nxt q b).2.st=k.st∧secOf (k.add num nxt q b).2.now (k.base num+nxt)=headOf q b.length∧(∀j,j<secsOf b→secOf (k.add num nxt q b).2.now (k.base num+nxt+1+j)=part_ b j)∧
 (∀j,j<k.base num+nxt∨k.base num+nxt+1+secsOf b≤j→secOf (k.add num nxt q b).2.now j=secOf k.now j)∧(k.add num nxt q b).2.pend=[]∧(k.pend.length≤900000→AddOk k num nxt q b):=by
 have hb1:=Cl.base_le (k:=k) hnum hn (i:=nxt+secsOf b) hfit
 have ha1:k.add1 num nxt b=Dk.add1L (k.base num+nxt+1) b (secsOf b) 0 k:=rfl
 obtain⟨a1,a2,a3,a4,a5,a6,a7⟩:=Cl.add1L (at0:=k.base num+nxt+1) (b:=b) (f:=secsOf b) (i:=0) h (by omega)
 obtain⟨w1,w2,w3,w4,w5,w6,w7⟩:=a2.write (i:=k.base num+nxt) (b:=headOf q b.length) (by rw[a3];omega) (headOf_len q b.length)
 obtain⟨s1,s2,s3,s4,s5,s6⟩:=w2.sync
 have e:k.add num nxt q b=((Dk.add1L (k.base num+nxt+1) b (secsOf b) 0 k).2.write (k.base num+nxt) (headOf q b.length)).2.sync:=by
  unfold Dk.add
  rw[ha1,if_neg (by simp[a1]),if_neg (by simp[w1])]
 rw[e]
 refine⟨s1,s2,s3.trans (w3.trans a3),s4.trans (w4.trans a4),by rw[s5,w5],fun j hj=>?_,fun j hj=>?_,s6,fun hp=>⟨hn,hfit,hp,?_,?_⟩⟩
 ·rw[s5,w6 _ (by omega),a5 j (by omega) (by omega)]
 ·rw[s5,w6 _ (by omega),a6 j (by omega)]
 ·rw[ha1,a7];simp
 ·rw[ha1,w7,a7];simp
end Go.Vc
namespace Go.Vc
open Go Go.Proofs
def RecAt(l:List Int)(at0:Nat)(q:Int)(b:List Int):Prop:=secOf l at0=headOf q b.length∧∀j,j<secsOf b→secOf l (at0+1+j)=part_ b j
theorem headOf_0(q:Int)(n:Nat):(headOf q n).getD 0 0=q∧(headOf q n).getD 63 0=q:=by
 constructor
 ·rfl
 ·unfold headOf;rfl
theorem headOf_size(q:Int){n:Nat}(h:n<16777216):recSize (headOf q n)=n:=by
 have e1:(headOf q n).getD 1 0=((n / 65536%256:Nat):Int):=rfl
 have e2:(headOf q n).getD 2 0=((n / 256%256:Nat):Int):=rfl
 have e3:(headOf q n).getD 3 0=((n%256:Nat):Int):=rfl
 unfold recSize
 rw[e1,e2,e3]
 omega
def partsL(b:List Int):Nat→List Int
 |0=>[]
 |n+1=>partsL b n++part_ b n
theorem partsL_len(b:List Int):∀n,(partsL b n).length=64*n
 |0=>rfl
 |n+1=>by rw[partsL,List.length_append,partsL_len b n,part_len];omega
theorem partsL_take(b:List Int):∀n,(partsL b n).take b.length=b.take (64*n)
 |0=>by simp[partsL]
 |n+1=>by
  rw[partsL,List.take_append,partsL_take b n,partsL_len]
  unfold part_
  have e0:b.take (64*(n+1))=b.take (64*n)++(b.drop (64*n)).take 64:=by
   rw[←List.take_add]
   rfl
  rw[e0]
  congr 1
  rw[show n*64=64*n from by omega]
  by_cases h:64*n≤b.length
  ·rw[List.take_append]
   have hl:((b.drop (64*n)).take 64).length=min 64 (b.length - 64*n):=by simp
   rw[List.take_of_length_le (by rw[hl];omega)]
   by_cases h2:b.length - 64*n≤64
   ·have:b.length - 64*n - ((b.drop (64*n)).take 64).length=0:=by rw[hl];omega
    rw[this,List.take_zero,List.append_nil]
   ·have:64 - ((b.drop (64*n)).take 64).length=0:=by rw[hl];omega
    rw[this]
    simp
  ·rw[show b.length - 64*n=0 from by omega,List.take_zero,List.drop_eq_nil_of_le (by omega)]
   rfl
theorem partsOf_eq{k:Dk}{at0:Nat}{b:List Int}:∀{n:Nat},(∀j,j<n→secOf k.now (at0+j)=part_ b j)→k.partsOf at0 n=partsL b n
 |0,_=>rfl
 |n+1,h=>by rw[Dk.partsOf,partsL,partsOf_eq fun j hj=>h j (by omega),h n (by omega)]
theorem readRec_at{k:Dk}(h:k.down=false){num:Int}(hnum:0≤num)(hn:2≤k.n){i:Nat}{q:Int}{b:List Int}(hr:RecAt k.now (k.base num+i) q b)(hfit:i+secsOf b<k.half)(hb:b.length<16777216):
 k.readRec num i=(q,b,i+1+secsOf b,0):=by
 have hle:=Cl.base_le (k:=k) hnum hn (i:=i) (by omega)
 have e0:k.readE (k.base num+i:Nat)=0:=by
  unfold Dk.readE
  have:(k.secs:Int)=(k.n:Nat):=rfl
  rw[if_neg (by omega),if_neg (by simp[h])]
 have hs:(recSize (secOf k.now (k.base num+i))+63) / 64=secsOf b:=by rw[hr.1,headOf_size q hb];rfl
 unfold Dk.readRec
 rw[if_neg (by omega),if_neg (by rw[e0];simp),hs,if_neg (by rw[hr.1,(headOf_0 q _).1,(headOf_0 q _).2];simp),if_neg (by omega)]
 rw[partsOf_eq (b:=b) fun j hj=>hr.2 j hj,hr.1,headOf_size q hb,(headOf_0 q _).1,partsL_take]
 congr 2
 exact List.take_of_length_le (by unfold secsOf;omega)
def LogL(l:List Int)(base half:Nat):Nat→List (Int×List Int)→Nat→Prop
 |i,[],e=>e=i∧∀j,i≤j→j<half→secOf l (base+j)=zeros
 |i,q::r,e=>RecAt l (base+i) q.1 q.2∧i+secsOf q.2<half∧q.2.length<16777216∧LogL l base half (i+1+secsOf q.2) r e
theorem LogL.end_le{l:List Int}{base half:Nat}:∀{rs:List (Int×List Int)} {i e:Nat},LogL l base half i rs e→i≤e
 |[],_,_,h=>by rw[h.1];exact Nat.le_refl _
 |q::r,i,e,h=>by have:=h.2.2.2.end_le;omega
theorem LogL.snoc{l l':List Int}{base half:Nat}{q:Int×List Int}:∀{rs:List (Int×List Int)} {i e:Nat},LogL l base half i rs e→RecAt l' (base+e) q.1 q.2→e+secsOf q.2<half→q.2.length<16777216→(∀j,j<base+e∨base+e+1+secsOf q.2≤j→secOf l' j=secOf l j)→LogL l' base half i (rs++[q]) (e+1+secsOf q.2)
 |[],i,e,h,hr,hf,hb,ho=>by
  obtain⟨rfl,hz⟩:=h
  refine⟨hr,hf,hb,rfl,fun j h1 h2=>?_⟩
  rw[ho _ (.inr (by omega))]
  exact hz j (by omega) h2
 |p::r,i,e,h,hr,hf,hb,ho=>by
  obtain⟨h1,h2,h3,h4⟩:=h
  have hle:=h4.end_le
  refine⟨⟨?_,fun j hj=>?_⟩,h2,h3,h4.snoc hr hf hb ho⟩
  ·rw[ho _ (.inl (by omega))];exact h1.1
  ·rw[ho _ (.inl (by omega))];exact h1.2 j hj
end Go.Vc
namespace Go.Vc
open Go Go.Proofs
theorem zeros_len:zeros.length=64:=by simp[zeros]
theorem Cl.zeroL:∀{f i:Nat} {k:Dk},Cl k→i+f≤k.n→
 (Dk.zeroL f i k).1=0∧Cl (Dk.zeroL f i k).2∧(Dk.zeroL f i k).2.n=k.n∧(Dk.zeroL f i k).2.st=k.st∧(∀j,i≤j→j<i+f→secOf (Dk.zeroL f i k).2.now j=zeros)∧(∀j,j<i→secOf (Dk.zeroL f i k).2.now j=secOf k.now j)∧(Dk.zeroL f i k).2.pend=[]
 |0,i,k,h,hn=>by
  rw[Dk.zeroL]
  obtain⟨s1,s2,s3,s4,s5,s6⟩:=h.sync
  exact⟨s1,s2,s3,s4,fun j h1 h2=>by omega,fun j _=>by rw[s5],s6⟩
 |f+1,i,k,h,hn=>by
  obtain⟨w1,w2,w3,w4,w5,w6,w7⟩:=h.write (i:=i) (b:=zeros) (by omega) zeros_len
  rw[Dk.zeroL,if_neg (by simp[w1])]
  obtain⟨r1,r2,r3,r4,r5,r6,r7⟩:=Cl.zeroL (f:=f) (i:=i+1) w2 (by omega)
  refine⟨r1,r2,r3.trans w3,r4.trans w4,fun j h1 h2=>?_,fun j hj=>?_,r7⟩
  ·by_cases hj:j=i
   ·subst hj
    rw[r6 j (by omega),w5]
   ·exact r5 j (by omega) (by omega)
  ·rw[r6 j (by omega),w6 j (by omega)]
theorem Cl.zero{k:Dk}(h:Cl k):k.zero.1=0∧Cl k.zero.2∧k.zero.2.n=k.n∧k.zero.2.st=k.st∧(∀j,j<k.n→secOf k.zero.2.now j=zeros)∧k.zero.2.pend=[]:=by
 obtain⟨a,b,c,d,e,_,g⟩:=Cl.zeroL (f:=k.n) (i:=0) h (by omega)
 exact⟨a,b,c,d,fun j hj=>e j (by omega) (by omega),g⟩
theorem Cl.readE{k:Dk}(h:Cl k){i:Nat}(hi:i<k.n):k.readE i=0:=by
 unfold Dk.readE
 have:(k.secs:Int)=(k.n:Nat):=rfl
 rw[if_neg (by omega),if_neg (by simp[h.on])]
theorem any_zeros{l:List Int}(hl:l.length=64):l.any (fun x=>decide (x≠0))=true∨l=zeros:=by
 by_cases h:l.any (fun x=>decide (x≠0))=true
 ·exact .inl h
 ·refine .inr ?_
  simp only[List.any_eq_true,decide_eq_true_eq,not_exists,not_and,Decidable.not_not]at h
  unfold zeros
  rw[←hl]
  exact List.eq_replicate_of_mem h
theorem Cl.clearL{num:Int}:∀{f i:Nat} {wr:Bool} {k:Dk},Cl k→k.base num+i+f≤k.n→
 (Dk.clearL num f i wr k).1=0∧Cl (Dk.clearL num f i wr k).2∧(Dk.clearL num f i wr k).2.n=k.n∧(Dk.clearL num f i wr k).2.st=k.st∧(∀j,i≤j→j<i+f→secOf (Dk.clearL num f i wr k).2.now (k.base num+j)=zeros)∧
 (∀j,j<k.base num+i∨k.base num+i+f≤j→secOf (Dk.clearL num f i wr k).2.now j=secOf k.now j)∧(Dk.clearL num f i wr k).2.pend.length≤k.pend.length+f
 |0,i,wr,k,h,hn=>by
  rw[Dk.clearL]
  split
  ·obtain⟨s1,s2,s3,s4,s5,s6⟩:=h.sync
   exact⟨s1,s2,s3,s4,fun j h1 h2=>by omega,fun j _=>by rw[s5],by rw[s6];simp⟩
  ·exact⟨rfl,h,rfl,rfl,fun j h1 h2=>by omega,fun j _=>rfl,Nat.le_refl _⟩
 |f+1,i,wr,k,h,hn=>by
  have hr:=h.readE (i:=k.base num+i) (by omega)
  rw[Dk.clearL,if_neg (by rw[hr];simp)]
  have hsl:(secOf k.now (k.base num+i)).length=64:=secOf_len (by have:=h.len;omega)
  split
  ·obtain⟨w1,w2,w3,w4,w5,w6,w7⟩:=h.write (i:=k.base num+i) (b:=zeros) (by omega) zeros_len
   rw[if_neg (by simp[w1])]
   have hb:(k.write (k.base num+i) zeros).2.base num=k.base num:=Dk.base_n w3 num
   obtain⟨r1,r2,r3,r4,r5,r6,r7⟩:=Cl.clearL (num:=num) (f:=f) (i:=i+1) (wr:=true) w2 (by omega)
   rw[hb]at r5 r6
   refine⟨r1,r2,r3.trans w3,r4.trans w4,fun j h1 h2=>?_,fun j hj=>?_,by omega⟩
   ·by_cases hj:j=i
    ·subst hj
     rw[r6 _ (by omega),w5]
    ·exact r5 j (by omega) (by omega)
   ·rw[r6 j (by omega),w6 j (by omega)]
  ·rename_i hz
   have hz':secOf k.now (k.base num+i)=zeros:=(any_zeros hsl).resolve_left hz
   obtain⟨r1,r2,r3,r4,r5,r6,r7⟩:=Cl.clearL (num:=num) (f:=f) (i:=i+1) (wr:=wr) h (by omega)
   refine⟨r1,r2,r3,r4,fun j h1 h2=>?_,fun j hj=>r6 j (by omega),by omega⟩
   by_cases hj:j=i
   ·subst hj
    rw[r6 _ (by omega),hz']
   ·exact r5 j (by omega) (by omega)
theorem Cl.clear{k:Dk}(h:Cl k){num:Int}(hnum:0≤num)(hn:2≤k.n){i:Nat}(hi:i≤k.half):
 (k.clear num i).1=0∧Cl (k.clear num i).2∧(k.clear num i).2.n=k.n∧(k.clear num i).2.st=k.st∧(∀j,i≤j→j<k.half→secOf (k.clear num i).2.now (k.base num+j)=zeros)∧
 (∀j,j<k.base num+i∨k.base num+k.half≤j→secOf (k.clear num i).2.now j=secOf k.now j)∧(k.clear num i).2.pend.length≤k.pend.length+k.half:=by
 have hb:k.base num+k.half≤k.n:=by
  by_cases h0:k.half=0
  ·unfold Dk.base
   unfold Dk.half Dk.secs at h0 ⊢
   have:(num%2).toNat≤1:=by omega
   rw[h0];omega
  ·have:=Cl.base_le (k:=k) hnum hn (i:=k.half - 1) (by omega);omega
 obtain⟨r1,r2,r3,r4,r5,r6,r7⟩:=Cl.clearL (num:=num) (f:=k.half - i) (i:=i) (wr:=false) h (by omega)
 exact⟨r1,r2,r3,r4,fun j h1 h2=>r5 j h1 (by omega),fun j hj=>r6 j (by omega),by unfold Dk.clear;omega⟩
theorem Cl.note{k:Dk}(h:Cl k){num:Int}(hn:2≤k.n):
 (k.note num).1=0∧Cl (k.note num).2∧(k.note num).2.n=k.n∧(k.note num).2.st=k.st∧secOf (k.note num).2.now (num%2).toNat=noteOf num∧(∀j,j≠(num%2).toNat→secOf (k.note num).2.now j=secOf k.now j)∧(k.note num).2.pend=[]:=by
 obtain⟨w1,w2,w3,w4,w5,w6,w7⟩:=h.write (i:=(num%2).toNat) (b:=noteOf num) (by omega) (noteP_len num 8)
 obtain⟨s1,s2,s3,s4,s5,s6⟩:=w2.sync
 have e:k.note num=(k.write (num%2).toNat (noteOf num)).2.sync:=by unfold Dk.note;rw[if_neg (by simp[w1])]
 rw[e]
 exact⟨s1,s2,s3.trans w3,s4.trans w4,by rw[s5,w5],fun j hj=>by rw[s5,w6 j hj],s6⟩
theorem noteOf_take(num:Int):(noteOf num).take 8=[nbyte num 0,nbyte num 1,nbyte num 2,nbyte num 3,nbyte num 4,nbyte num 5,nbyte num 6,nbyte num 7]:=rfl
theorem numB_note{num:Int}(h0:0≤num)(h1:num<1000000000):numB ((noteOf num).take 8)=num:=by
 rw[noteOf_take]
 unfold numB nbyte
 simp only[List.foldl_cons,List.foldl_nil]
 simp only[Nat.reduceMul,Nat.reduceSub,Nat.reducePow,Int.cast_ofNat_Int]
 omega
def NoteIs(l:List Int)(num:Int):Prop:=secOf l (num%2).toNat=noteOf num∧(secOf l (1 - (num%2).toNat)=zeros∨∃m:Int,0≤m∧m<num∧secOf l (1 - (num%2).toNat)=noteOf m)
end Go.Vc
namespace Go.Vc
open Go Go.Proofs
theorem encNm_191{x:Nm}(hn:nameOk x.name=true)(hs:schemaE x.arr.dims x.arr.attrs=0):(encNm x).length≤191:=by
 obtain⟨h1,_,h3⟩:=sch_dims hs
 have h14:=dims_14 h1
 have e1:=encS_12 (nameOk_12 hn).2
 have e2:=encU_lt 0 (n:=x.arr.dims.length) (by simp;omega)
 have e3:=encU_lt 0 (n:=x.arr.attrs.length) (by simp;omega)
 have e4:=flat_le (f:=encD) (k:=23) (l:=x.arr.dims) fun d hd=>by
  obtain⟨d1,d2,d3,d4,d5⟩:=dims_in h1 d hd
  have a1:=encS_12 (nameOk_12 d1).2
  have a2:=encU_lt 4 (n:=zig d.lo) (by have:=zig_lt (x:=d.lo) (b:=1073741825) (by omega) (by omega);omega)
  have a3:=encU_lt 4 (n:=zig d.hi) (by have:=zig_lt (x:=d.hi) (b:=1073741825) (by omega) (by omega);omega)
  unfold encD
  simp only[List.length_append]
  omega
 have e5:=flat_le (f:=encA) (k:=14) (l:=x.arr.attrs) fun d hd=>by
  have a1:=encS_12 (nameOk_12 (sch_attrs hs d hd).1).2
  unfold encA
  simp only[List.length_append,List.length_cons,List.length_nil]
  omega
 unfold encNm
 simp only[List.length_append]
 omega
theorem encBase_len{st:Sto}(h:StoV st){ps:List (Pl×Sta)}(hp:ps.Perm st.places):(encBase st.arrays st.batches ps).length≤64*(8*st.arrays.length+3*st.places.length+st.batches.length):=by
 have h1:=h.a1
 have h2:=h.an
 have h3:=h.bn
 have h4:=h.pn
 have hl:=hp.length_eq
 have e1:=encU_lt 0 (n:=st.arrays.length) (by simp;omega)
 have e2:=encU_lt 1 (n:=st.batches.length) (by simp;omega)
 have e3:=encU_lt 1 (n:=ps.length) (by simp;omega)
 have e4:=flat_le (f:=encNm) (k:=191) (l:=st.arrays) fun x hx=>encNm_191 (h.nms x hx) (h.sch x hx)
 have e5:=flat_le (f:=encSeen) (k:=19) (l:=st.batches) fun x hx=>by
  obtain⟨b1,b2,b3⟩:=h.bat x hx
  have a1:=encS_12 (nameOk_12 b1).2
  have a2:=encU_lt 5 (n:=zig x.stamp) (by have:=zig_lt (x:=x.stamp) (b:=1099511627776) (by omega) (by omega);omega)
  unfold encSeen
  simp only[List.length_append]
  omega
 have e6:=flat_le (f:=encPs st.arrays) (k:=132) (l:=ps) fun p hpm=>by
  have hpo:=h.pls p (hp.mem_iff.1 hpm)
  obtain⟨g1,g2,g3,g4,g5,g6,g7,g8⟩:=hpo.dims h.sch
  have ga:=hpo.a0
  have gb0:=hpo.b0
  have gb1:=hpo.b1
  have a1:=encU_lt 0 (n:=IntKind.u64.wrap p.1.a) (by rw[wrap_in (ini_u64.2 (by omega))];simp;omega)
  have a2:=encAt_len g5 (by omega)
  have a3:=encU_lt 1 (n:=IntKind.u64.wrap p.2.batch) (by rw[wrap_in (ini_u64.2 (by omega))];simp;omega)
  have a4:=encVs_len g8 g7
  unfold encPs
  simp only[List.length_append]
  omega
 unfold encBase encBase1
 simp only[List.length_append]
 omega
theorem encBase_secs{st:Sto}(h:StoV st){ps:List (Pl×Sta)}(hp:ps.Perm st.places):secsOf (encBase st.arrays st.batches ps)≤8*st.arrays.length+3*st.places.length+st.batches.length:=by
 have:=encBase_len h hp
 unfold secsOf
 omega
theorem encB_secs{st:Sto}{b:Bt}(hs:∀x∈st.arrays,schemaE x.arr.dims x.arr.attrs=0)(ha:st.arrays.length≤16)(h:BtOk st b):secsOf (encB st.arrays b)≤1+3*b.changes.length∧(encB st.arrays b).length<16777216:=by
 have:=encB_len hs ha h
 have:=h.c2
 unfold secsOf
 omega
end Go.Vc
namespace Go.Vc
open Go Go.Proofs
theorem putM_keys{κ β:Type}[DecidableEq κ]{l:List (κ×β)}{k:κ}{v:β}:(putM l k v).map (·.1)=if k∈l.map (·.1) then l.map (·.1) else l.map (·.1)++[k]:=by
 unfold putM
 by_cases h:k∈l.map (·.1)
 ·rw[if_pos h,if_pos,List.map_map]
  ·apply List.map_congr_left
   intro p _
   simp only[Function.comp]
   split
   ·rename_i e;simp_all
   ·rfl
  ·obtain⟨p,hp,he⟩:=List.mem_map.1 h
   rw[List.any_eq_true]
   exact⟨p,hp,by simpa using he⟩
 ·rw[if_neg h,if_neg]
  ·simp
  ·rw[List.any_eq_true]
   rintro⟨p,hp,he⟩
   exact h (List.mem_map.2 ⟨p,hp,by simpa using he⟩)
theorem putM_nd{κ β:Type}[DecidableEq κ]{l:List (κ×β)}{k:κ}{v:β}(h:(l.map (·.1)).Nodup):((putM l k v).map (·.1)).Nodup:=by
 rw[putM_keys]
 split
 ·exact h
 ·rename_i hk
  rw[List.nodup_append]
  exact⟨h,by simp,fun a ha b hb=>by simp at hb;subst hb;rintro rfl;exact hk ha⟩
theorem putM_len{κ β:Type}[DecidableEq κ]{l:List (κ×β)}{k:κ}{v:β}:(putM l k v).length≤l.length+1:=by
 have:=congrArg List.length (putM_keys (l:=l) (k:=k) (v:=v))
 rw[List.length_map]at this
 rw[this]
 split<;>simp
theorem putPs_nd{bs:List Seen}{n k:Int}:∀{l:List Cell} {pl:List (Pl×Sta)},(pl.map (·.1)).Nodup→((putPs bs n k pl l).map (·.1)).Nodup∧(putPs bs n k pl l).length≤pl.length+l.length
 |[],pl,h=>⟨h,Nat.le_refl _⟩
 |c::r,pl,h=>by
  have h1:((putP bs n k pl c).map (·.1)).Nodup∧(putP bs n k pl c).length≤pl.length+1:=by
   unfold putP
   split
   ·exact⟨putM_nd h,putM_len⟩
   ·exact⟨h,by omega⟩
  obtain⟨h2,h3⟩:=putPs_nd (bs:=bs) (n:=n) (k:=k) (l:=r) h1.1
  refine⟨h2,?_⟩
  have:(putPs bs n k pl (c::r))=putPs bs n k (putP bs n k pl c) r:=rfl
  rw[this,List.length_cons]
  omega
theorem StoV.commit{st:Sto}{b:Bt}(h:StoV st)(hb:BtOk st b)(ht:∀x∈st.batches,x.token≠b.token)(h1:st.batches.length<1000)(h2:st.places.length+b.changes.length≤4000)(h3:st.use+b.weight≤100000):StoV (st.commit b):=by
 obtain⟨x,hx,hall⟩:=hb.arr
 have hnd:=putPs_nd (bs:=st.batches++[b.seen]) (n:=(st.batches.length+1:Nat)) (k:=findA_ st.arrays b.array) (l:=b.changes) h.keys
 refine⟨h.a1,h.an,h.nms,h.nd,h.sch,h.cel,?_,?_,?_,?_,?_,hnd.1,?_,h3⟩
 ·show(st.batches++[b.seen]).length≤1000
  simp;omega
 ·intro y hy
  rcases List.mem_append.1 (show y∈st.batches++[b.seen] from hy) with hy|hy
  ·exact h.bat y hy
  ·simp at hy
   subst hy
   exact⟨hb.tok,hb.s0,hb.s1⟩
 ·show((st.batches++[b.seen]).map (·.token)).Nodup
  rw[List.map_append,List.nodup_append]
  refine⟨h.toks,by simp,fun t ht' u hu=>?_⟩
  obtain⟨y,hy,rfl⟩:=List.mem_map.1 ht'
  simp at hu
  subst hu
  exact ht y hy
 ·have:=hnd.2
  show(putPs _ _ _ _ _).length≤4000
  omega
 ·intro p hp
  have hl:(st.commit b).batches.length=st.batches.length+1:=by show(st.batches++[b.seen]).length=_;simp
  rw[hl]
  rcases putPs_mem (show p∈putPs (st.batches++[b.seen]) (st.batches.length+1:Nat) (findA_ st.arrays b.array) st.places b.changes from hp) with ⟨c,hc,rfl⟩|hp
  ·obtain⟨c1,c2,c3,c4⟩:=changeE_ok (hall c hc)
   exact⟨hb.k0,⟨x,hx,⟨c.at_,c1,c2,rfl⟩,c3,c4⟩,by show(0:Int)≤((st.batches.length+1:Nat):Int);omega,by show((st.batches.length+1:Nat):Int)≤((st.batches.length+1:Nat):Int);omega⟩
  ·obtain⟨p1,p2,p3,p4⟩:=h.pls p hp
   exact⟨p1,p2,p3,by omega⟩
 ·show 0≤st.use+b.weight
  have:=h.u0
  unfold Bt.weight
  omega
end Go.Vc
namespace Go.Vc
open Go Go.Proofs
structure DkS (k:Dk) (num:Int) (nxt:Nat) (arrays:List Nm) (bs:List Seen) (ps:List (Pl×Sta)) (bt:List Bt):Prop where
 cl:Cl k
 n2:10≤k.n
 num0:0<num
 num1:num<1000000
 note:NoteIs k.now num
 log:LogL k.now (k.base num) k.half 0 ((1,encBase arrays bs ps)::bt.map fun b=>(2,encB arrays b)) nxt
 pend:k.pend=[]
theorem DkS.format{k:Dk}(h:Cl k)(hn:10≤k.n){arrays:List Nm}{ps:List (Pl×Sta)}(hfit:secsOf (encBase arrays [] ps)<k.half)(hl:(encBase arrays [] ps).length<16777216):
 (k.fmt (encBase arrays [] ps)).1=0∧DkS (k.fmt (encBase arrays [] ps)).2 1 (0+1+secsOf (encBase arrays [] ps)) arrays [] ps []∧(k.fmt (encBase arrays [] ps)).2.n=k.n∧(k.fmt (encBase arrays [] ps)).2.st=k.st∧
  AddOk k.zero.2 1 0 1 (encBase arrays [] ps)∧(k.zero.2.add 1 0 1 (encBase arrays [] ps)).2.pend=[]:=by
 obtain⟨z1,z2,z3,z4,z5,z6⟩:=h.zero
 have hh:k.zero.2.half=k.half:=Dk.half_n z3
 have hb:k.zero.2.base 1=k.base 1:=Dk.base_n z3 1
 generalize hB:encBase arrays [] ps=B at *
 obtain⟨a1,a2,a3,a4,a5,a6,a7,a8,a9⟩:=z2.add (num:=1) (nxt:=0) (q:=1) (b:=B) (by omega) (by omega) (by rw[hh];omega)
 obtain⟨t1,t2,t3,t4,t5,t6,t7⟩:=a2.note (num:=1) (by rw[a3,z3];omega)
 have e:k.fmt B=(k.zero.2.add 1 0 1 B).2.note 1:=by unfold Dk.fmt;rw[if_neg (by simp[z1]),if_neg (by simp[a1])]
 rw[hb]at a5 a6 a7
 have e1:((1:Int)%2).toNat=1:=rfl
 rw[e1]at t5 t6
 have hbase:2≤k.base 1:=by unfold Dk.base;omega
 have hbh:k.base 1+k.half≤k.n:=by
  unfold Dk.base
  unfold Dk.half Dk.secs
  rw[e1];omega
 have hn':(k.fmt B).2.n=k.n:=by rw[e];exact t3.trans (a3.trans z3)
 have hbf:(k.fmt B).2.base 1=k.base 1:=Dk.base_n hn' 1
 have hhf:(k.fmt B).2.half=k.half:=Dk.half_n hn'
 refine⟨by rw[e];exact t1,⟨by rw[e];exact t2,by rw[hn'];exact hn,by omega,by omega,?_,?_,by rw[e];exact t7⟩,hn',by rw[e];exact t4.trans (a4.trans z4),a9 (by rw[z6];simp),a8⟩
 ·rw[e]
  refine⟨t5,.inl ?_⟩
  rw[e1,t6 _ (by omega),a7 _ (.inl (by omega)),z5 _ (by omega)]
 ·rw[hbf,hhf,hB]
  refine⟨⟨?_,fun j hj=>?_⟩,by dsimp only;omega,hl,rfl,fun j h1 h2=>?_⟩
  ·rw[e,t6 _ (by omega)];exact a5
  ·rw[e,t6 _ (by omega)]
   exact a6 j hj
  ·rw[e,t6 _ (by omega),a7 _ (.inr (by dsimp only at h1;omega)),z5 _ (by omega)]
end Go.Vc
namespace Go.Vc
open Go Go.Proofs
theorem DkS.add{k:Dk}{num:Int}{nxt:Nat}{arrays:List Nm}{bs:List Seen}{ps:List (Pl×Sta)}{bt:List Bt}(h:DkS k num nxt arrays bs ps bt){b:Bt}(hfit:nxt+secsOf (encB arrays b)<k.half)(hl:(encB arrays b).length<16777216):
 (k.add num nxt 2 (encB arrays b)).1=0∧DkS (k.add num nxt 2 (encB arrays b)).2 num (nxt+1+secsOf (encB arrays b)) arrays bs ps (bt++[b])∧(k.add num nxt 2 (encB arrays b)).2.n=k.n∧(k.add num nxt 2 (encB arrays b)).2.st=k.st∧AddOk k num nxt 2 (encB arrays b):=by
 have hn2:=h.n2
 have hnum:=h.num0
 obtain⟨a1,a2,a3,a4,a5,a6,a7,a8,a9⟩:=h.cl.add (num:=num) (nxt:=nxt) (q:=2) (b:=encB arrays b) (by omega) (by omega) hfit
 have hb:(k.add num nxt 2 (encB arrays b)).2.base num=k.base num:=Dk.base_n a3 num
 have hh:(k.add num nxt 2 (encB arrays b)).2.half=k.half:=Dk.half_n a3
 have hbase:2≤k.base num:=by unfold Dk.base;omega
 refine⟨a1,⟨a2,by rw[a3];exact hn2,hnum,h.num1,?_,?_,a8⟩,a3,a4,a9 (by rw[h.pend];simp)⟩
 ·have h2:(num%2).toNat≤1:=by omega
  refine⟨by rw[a7 _ (.inl (by omega))];exact h.note.1,?_⟩
  rw[a7 _ (.inl (by omega))]
  exact h.note.2
 ·rw[hb,hh,List.map_append]
  have:=h.log.snoc (q:=(2,encB arrays b)) (l':=(k.add num nxt 2 (encB arrays b)).2.now) ⟨a5,a6⟩ hfit hl fun j hj=>a7 j (by dsimp only at hj;omega)
  exact this
end Go.Vc
namespace Go.Vc
open Go Go.Proofs
theorem DkS.cmp{k:Dk}{num:Int}{nxt:Nat}{arrays arrays':List Nm}{bs bs':List Seen}{ps ps':List (Pl×Sta)}{bt:List Bt}(h:DkS k num nxt arrays bs ps bt)(hnum1:num+1<1000000)(hfit:secsOf (encBase arrays' bs' ps')<k.half)(hl:(encBase arrays' bs' ps').length<16777216)(hk:k.n≤2048):
 (k.clear (num+1) 0).1=0∧((k.clear (num+1) 0).2.add (num+1) 0 1 (encBase arrays' bs' ps')).1=0∧(((k.clear (num+1) 0).2.add (num+1) 0 1 (encBase arrays' bs' ps')).2.note (num+1)).1=0∧
 DkS (((k.clear (num+1) 0).2.add (num+1) 0 1 (encBase arrays' bs' ps')).2.note (num+1)).2 (num+1) (0+1+secsOf (encBase arrays' bs' ps')) arrays' bs' ps' []∧
 (((k.clear (num+1) 0).2.add (num+1) 0 1 (encBase arrays' bs' ps')).2.note (num+1)).2.n=k.n∧(((k.clear (num+1) 0).2.add (num+1) 0 1 (encBase arrays' bs' ps')).2.note (num+1)).2.st=k.st∧
 AddOk (k.clear (num+1) 0).2 (num+1) 0 1 (encBase arrays' bs' ps')∧((k.clear (num+1) 0).2.add (num+1) 0 1 (encBase arrays' bs' ps')).2.pend=[]:=by
 have hn2:=h.n2
 have hnum:=h.num0
 generalize hB:encBase arrays' bs' ps'=B at *
 obtain⟨c1,c2,c3,c4,c5,c6,c7⟩:=h.cl.clear (num:=num+1) (by omega) (by omega) (i:=0) (by omega)
 generalize hK1:(k.clear (num+1) 0).2=k1 at *
 have hh1:k1.half=k.half:=Dk.half_n c3
 have hb1:k1.base (num+1)=k.base (num+1):=Dk.base_n c3 _
 have hhl:=k.half_le
 obtain⟨a1,a2,a3,a4,a5,a6,a7,a8,a9⟩:=c2.add (num:=num+1) (nxt:=0) (q:=1) (b:=B) (by omega) (by omega) (by rw[hh1];omega)
 generalize hK2:(k1.add (num+1) 0 1 B).2=k2 at *
 obtain⟨t1,t2,t3,t4,t5,t6,t7⟩:=a2.note (num:=num+1) (by rw[a3,c3];omega)
 generalize hK3:(k2.note (num+1)).2=k3 at *
 have hn3:k3.n=k.n:=t3.trans (a3.trans c3)
 have hb3:k3.base (num+1)=k.base (num+1):=Dk.base_n hn3 _
 have hh3:k3.half=k.half:=Dk.half_n hn3
 have hbase:2≤k.base (num+1):=by unfold Dk.base;omega
 rw[hb1]at a5 a6 a7
 have hpar:((num+1)%2).toNat=1 - (num%2).toNat∧1 - ((num+1)%2).toNat=(num%2).toNat∧(num%2).toNat≤1:=by omega
 refine⟨c1,a1,t1,⟨t2,by rw[hn3];exact hn2,by omega,hnum1,?_,?_,t7⟩,hn3,t4.trans (a4.trans c4),a9 (by rw[h.pend]at c7;simp at c7;omega),a8⟩
 ·refine⟨t5,.inr ⟨num,by omega,by omega,?_⟩⟩
  rw[hpar.2.1,t6 _ (by omega),a7 _ (.inl (by omega)),c6 _ (.inl (by omega))]
  exact h.note.1
 ·rw[hb3,hh3,hB]
  refine⟨⟨?_,fun j hj=>?_⟩,by dsimp only;omega,hl,rfl,fun j h1 h2=>?_⟩
  ·rw[t6 _ (by omega)];exact a5
  ·rw[t6 _ (by omega)]
   exact a6 j hj
  ·rw[t6 _ (by omega),a7 _ (.inr (by dsimp only at h1;omega))]
   exact c5 j (by omega) h2
end Go.Vc
namespace Go.Vc
open Go Go.Proofs
open Go.Value Go.Ending Go.IntKind
set_option maxRecDepth 100000
theorem lshort_vc{s:ByteArray}{w:World}{R:Ending→World→Prop}
 (h :
 R (returned (Value.bool (decide ((↑s.size:Int)≤(40:Int))))) w):Calls Tryz.prog 150 #[string s] w R :=
 fnc0 (an:={}) (args:=[.a (.c (.v (.string s)))]) Tryz_ok Tryz.func150 (by kernel_rfl) rfl rfl h
theorem lschema_vc{aa:Option Addr}{an ac:Nat}{ba:Option Addr}{bn bc:Nat}{w:World}{R:Ending→World→Prop}
 (h :
 (¬(10:Int)<(↑an:Int)→
 ((10:Int)<(↑bn:Int)→
 R (returned (Value.bool false)) w)∧
 (¬(10:Int)<(↑bn:Int)→
 ∃(P1:List Value→World→Prop) (P2:List Value→World→Nat),P1 [int i64 0] w∧
 ∀n1 w1,P1 [int i64 n1] w1→
 (n1<(↑an:Int)→
 ∃d1,aa=some d1∧
 0≤n1∧
 n1<(↑an:Int)∧
 ∃s1,LdA w1 ((d1.add (n1.toNat*3)).add 0) [string s1]∧
 CallW Tryz.prog 150 #[string s1] w1 fun e1 w2 =>
 ∃b1,e1=returned (Value.bool b1)∧
 KpL [] w1 w2∧
 ((!b1)=true→
 R (returned (Value.bool false)) w2)∧
 ((!b1)=false→
 InI i64 (n1+1)∧
 P1 [int i64 (n1+1)] w2∧
 P2 [int i64 (n1+1)] w2<P2 [int i64 n1] w1))∧
 (¬n1<(↑an:Int)→
 ∃(P3:List Value→World→Prop) (P4:List Value→World→Nat),P3 [int i64 0] w1∧
 ∀n2 w3,P3 [int i64 n2] w3→
 (n2<(↑bn:Int)→
 ∃d2,ba=some d2∧
 0≤n2∧
 n2<(↑bn:Int)∧
 ∃s2,LdA w3 ((d2.add (n2.toNat*2)).add 0) [string s2]∧
 CallW Tryz.prog 150 #[string s2] w3 fun e2 w4 =>
 ∃b2,e2=returned (Value.bool b2)∧
 KpL [] w3 w4∧
 ((!b2)=true→
 R (returned (Value.bool false)) w4)∧
 ((!b2)=false→
 InI i64 (n2+1)∧
 P3 [int i64 (n2+1)] w4∧
 P4 [int i64 (n2+1)] w4<P4 [int i64 n2] w3))∧
 (¬n2<(↑bn:Int)→
 R (returned (Value.bool true)) w3))))∧
 ((10:Int)<(↑an:Int)→
 R (returned (Value.bool false)) w)):Calls Tryz.prog 101 #[slice aa an ac,slice ba bn bc] w R :=
 fnc0 (an:={ loops:=[⟨9,[6],[4,28,29,30,31,32,33,34,35,36,37,38,39,40],[]⟩,⟨4,[5],[4,15,16,17,18,19,20,21,22,23,24,25,26,27],[]⟩] }) (args:=[.a (.c (.v (.slice aa an ac))),.a (.c (.v (.slice ba bn bc)))]) Tryz_ok Tryz.func101 (by kernel_rfl) rfl rfl h
theorem lcells_vc{aa:Option Addr}{an ac:Nat}{n:Int}{w:World}{R:Ending→World→Prop}
 (h :
 (n<(↑an:Int)→
 R (returned (Value.bool false)) w)∧
 (¬n<(↑an:Int)→
 ∃(P1:List Value→World→Prop) (P2:List Value→World→Nat),P1 [int i64 0] w∧
 ∀n1 w1,P1 [int i64 n1] w1→
 (n1<(↑an:Int)→
 ∃d1,aa=some d1∧
 0≤n1∧
 n1<(↑an:Int)∧
 ∃a1 k1 k2,LdA w1 ((d1.add (n1.toNat*2)).add 0) [slice a1 k1 k2]∧
 (¬(10:Int)<(↑k1:Int)→
 ∃d2,aa=some d2∧
 0≤n1∧
 n1<(↑an:Int)∧
 ∃a2 k3 k4,LdA w1 ((d2.add (n1.toNat*2)).add 1) [slice a2 k3 k4]∧
 ((10:Int)<(↑k3:Int)→
 R (returned (Value.bool false)) w1)∧
 (¬(10:Int)<(↑k3:Int)→
 ∃(P3:List Value→World→Prop) (P4:List Value→World→Nat),P3 [int i64 0] w1∧
 ∀n2 w2,P3 [int i64 n2] w2→
 ∃d3,aa=some d3∧
 0≤n1∧
 n1<(↑an:Int)∧
 ∃a3 k5 k6,LdA w2 ((d3.add (n1.toNat*2)).add 1) [slice a3 k5 k6]∧
 (n2<(↑k5:Int)→
 ∃d4,aa=some d4∧
 0≤n1∧
 n1<(↑an:Int)∧
 ∃a4 k7 k8,LdA w2 ((d4.add (n1.toNat*2)).add 1) [slice a4 k7 k8]∧
 ∃d5,a4=some d5∧
 0≤n2∧
 n2<(↑k7:Int)∧
 ∃s1,LdA w2 ((d5.add (n2.toNat*4)).add 3) [string s1]∧
 CallW Tryz.prog 150 #[string s1] w2 fun e1 w3 =>
 ∃b1,e1=returned (Value.bool b1)∧
 KpL [] w2 w3∧
 ((!b1)=true→
 R (returned (Value.bool false)) w3)∧
 ((!b1)=false→
 InI i64 (n2+1)∧
 P3 [int i64 (n2+1)] w3∧
 P4 [int i64 (n2+1)] w3<P4 [int i64 n2] w2))∧
 (¬n2<(↑k5:Int)→
 InI i64 (n1+1)∧
 P1 [int i64 (n1+1)] w2∧
 P2 [int i64 (n1+1)] w2<P2 [int i64 n1] w1)))∧
 ((10:Int)<(↑k1:Int)→
 R (returned (Value.bool false)) w1))∧
 (¬n1<(↑an:Int)→
 R (returned (Value.bool true)) w1))):Calls Tryz.prog 102 #[slice aa an ac,int i64 n] w R :=
 fnc0 (an:={ loops:=[⟨9,[6],[4,33,34,35,36,37,38,39,40,41,42,43,44,45,46,47,48,49,50,51,52,53],[]⟩,⟨4,[5],[4,6,11,12,13,14,15,16,17,18,19,20,21,22,23,24,25,26,27,28,29,30,31,32,33,34,35,36,37,38,39,40,41,42,43,44,45,46,47,48,49,50,51,52,53],[]⟩] }) (args:=[.a (.c (.v (.slice aa an ac))),.a (.c (.v (.int .i64 n)))]) Tryz_ok Tryz.func102 (by kernel_rfl) rfl rfl h
theorem lFew_vc{xxa:Option Addr}{xxn xxc:Nat}{xya:Option Addr}{xyn xyc:Nat}{xza:Option Addr}{xzn xzc:Nat}{n:Int}{w:World}{R:Ending→World→Prop}
 (h :
 ∀k1,w.heap.size≤k1→
 ∀w1,KpL [] w w1→
 CallW Tryz.prog 101 #[slice xxa xxn xxc,slice xya xyn xyc] w1 fun e1 w2 =>
 ∃b1,e1=returned (Value.bool b1)∧
 KpL [] w1 w2∧
 (b1=true→
 CallW Tryz.prog 102 #[slice xza xzn xzc,int i64 n] w2 fun e2 w3 =>
 ∃b2,e2=returned (Value.bool b2)∧
 KpL [] w2 w3∧
 R (returned (Value.bool b2)) w3)∧
 (b1=false→
 R (returned (Value.bool false)) w2)):Calls Tryz.prog 44 #[agg #[slice xxa xxn xxc,slice xya xyn xyc,slice xza xzn xzc],int i64 n] w R :=
 fnc0 (an:={}) (args:=[.a (.agg [.v (.slice xxa xxn xxc),.v (.slice xya xyn xyc),.v (.slice xza xzn xzc)]),.a (.c (.v (.int .i64 n)))]) Tryz_ok Tryz.func44 (by kernel_rfl) rfl rfl h
theorem lfew_vc{dba:Option Addr}{dbn dbc:Nat}{w:World}{R:Ending→World→Prop}
 (h :
 ((4:Int)<(↑dbn:Int)→
 R (returned (Value.bool false)) w)∧
 (¬(4:Int)<(↑dbn:Int)→
 ∃(P1:List Value→World→Prop) (P2:List Value→World→Nat),P1 [int i64 0] w∧
 ∀n1 w1,P1 [int i64 n1] w1→
 (n1<(↑dbn:Int)→
 ∃d1,dba=some d1∧
 0≤n1∧
 n1<(↑dbn:Int)∧
 ∃s1,LdA w1 ((d1.add (n1.toNat*4)).add 0) [string s1]∧
 (¬(40:Int)<(↑s1.size:Int)→
 ∃d2,dba=some d2∧
 0≤n1∧
 n1<(↑dbn:Int)∧
 ∃a1 k1 k2 a2 k3 k4 a3 k5 k6,LdA w1 ((d2.add (n1.toNat*4)).add 1) [slice a1 k1 k2,slice a2 k3 k4,slice a3 k5 k6]∧
 CallW Tryz.prog 44 (#[agg #[slice a1 k1 k2,slice a2 k3 k4,slice a3 k5 k6],int i64 8]) w1 fun e1 w2 =>
 ∃b1,e1=returned (Value.bool b1)∧
 KpL [] w1 w2∧
 ((!b1)=true→
 R (returned (Value.bool false)) w2)∧
 ((!b1)=false→
 InI i64 (n1+1)∧
 P1 [int i64 (n1+1)] w2∧
 P2 [int i64 (n1+1)] w2<P2 [int i64 n1] w1))∧
 ((40:Int)<(↑s1.size:Int)→
 R (returned (Value.bool false)) w1))∧
 (¬n1<(↑dbn:Int)→
 R (returned (Value.bool true)) w1))):Calls Tryz.prog 8 #[slice dba dbn dbc] w R :=
 fnc0 (an:={ loops:=[⟨4,[3],[2,7,8,9,10,11,12,13,14,15,16,17,18,19,20,21,22,23,24,25,26,27,28],[]⟩] }) (args:=[.a (.c (.v (.slice dba dbn dbc)))]) Tryz_ok Tryz.func8 (by kernel_rfl) rfl rfl h
theorem lshortB_vc{tok:ByteArray}{stp:Int}{arn:ByteArray}{ca:Option Addr}{cn cc:Nat}{w:World}{R:Ending→World→Prop}
 (h :
 ∀k1,w.heap.size≤k1→
 (¬(40:Int)<(↑tok.size:Int)→
 (¬(40:Int)<(↑arn.size:Int)→
 ((20:Int)<(↑cn:Int)→
 ∀w1,KpL [] w w1→
 R (returned (Value.bool false)) w1)∧
 (¬(20:Int)<(↑cn:Int)→
 ∃(P1:List Value→World→Prop) (P2:List Value→World→Nat),(∀w2,KpL [] w w2→
 P1 [int i64 0] w2)∧
 ∀n1 w3,P1 [int i64 n1] w3→
 (n1<(↑cn:Int)→
 ∃d1,ca=some d1∧
 0≤n1∧
 n1<(↑cn:Int)∧
 ∃a1 k2 k3 a2 k4 k5,LdA w3 (d1.add (n1.toNat*2)) [slice a1 k2 k3,slice a2 k4 k5]∧
 ∀k6,w3.heap.size≤k6→
 ∀w4,KpL [] w3 w4→
 Hb w4 k6 #[slice a1 k2 k3,slice a2 k4 k5] 147→
 CallW Tryz.prog 44 (#[agg #[slice none 0 0,slice none 0 0,slice (some (Addr.mk k6 0 none)) 1 1],int i64 1]) w4 fun e1 w5 =>
 ∃b1,e1=returned (Value.bool b1)∧
 KpL [] w4 w5∧
 ((!b1)=true→
 R (returned (Value.bool false)) w5)∧
 ((!b1)=false→
 InI i64 (n1+1)∧
 P1 [int i64 (n1+1)] w5∧
 P2 [int i64 (n1+1)] w5<P2 [int i64 n1] w3))∧
 (¬n1<(↑cn:Int)→
 R (returned (Value.bool true)) w3)))∧
 ((40:Int)<(↑arn.size:Int)→
 ∀w6,KpL [] w w6→
 R (returned (Value.bool false)) w6))∧
 ((40:Int)<(↑tok.size:Int)→
 ∀w7,KpL [] w w7→
 R (returned (Value.bool false)) w7)):Calls Tryz.prog 18 #[agg #[string tok,int i64 stp,string arn,slice ca cn cc]] w R :=
 fnc0 (an:={ loops:=[⟨4,[3],[2,20,21,22,23,24,25,26,27,28,29,30,31,32,33,34,35],[]⟩] }) (args:=[.a (.agg [.v (.string tok),.v (.int .i64 stp),.v (.string arn),.v (.slice ca cn cc)])]) Tryz_ok Tryz.func18 (by kernel_rfl) rfl rfl h
theorem lfits_vc{la:Option Addr}{ln lc:Nat}{w:World}{R:Ending→World→Prop}
 (h :
 ((12:Int)<(↑ln:Int)→
 R (returned (Value.bool false)) w)∧
 (¬(12:Int)<(↑ln:Int)→
 ∃(P1:List Value→World→Prop) (P2:List Value→World→Nat),P1 [int i64 0] w∧
 ∀n1 w1,P1 [int i64 n1] w1→
 (n1<(↑ln:Int)→
 ∃d1,la=some d1∧
 0≤n1∧
 n1<(↑ln:Int)∧
 ∃s1 n2 s2 a1 k1 k2,LdA w1 ((d1.add (n1.toNat*9)).add 0) [string s1,int i64 n2,string s2,slice a1 k1 k2]∧
 CallW Tryz.prog 18 (#[agg #[string s1,int i64 n2,string s2,slice a1 k1 k2]]) w1 fun e1 w2 =>
 ∃b1,e1=returned (Value.bool b1)∧
 KpL [] w1 w2∧
 ((!b1)=false→
 ∃d2,la=some d2∧
 0≤n1∧
 n1<(↑ln:Int)∧
 ∃a2 k3 k4,LdA w2 (((d2.add (n1.toNat*9)).add 0).add 3) [slice a2 k3 k4]∧
 (¬(4:Int)<(↑k3:Int)→
 ∃d3,la=some d3∧
 0≤n1∧
 n1<(↑ln:Int)∧
 ∃a3 k5 k6,LdA w2 (((d3.add (n1.toNat*9)).add 6).add 1) [slice a3 k5 k6]∧
 ((200:Int)<(↑k5:Int)→
 R (returned (Value.bool false)) w2)∧
 (¬(200:Int)<(↑k5:Int)→
 InI i64 (n1+1)∧
 P1 [int i64 (n1+1)] w2∧
 P2 [int i64 (n1+1)] w2<P2 [int i64 n1] w1))∧
 ((4:Int)<(↑k3:Int)→
 R (returned (Value.bool false)) w2))∧
 ((!b1)=true→
 R (returned (Value.bool false)) w2))∧
 (¬n1<(↑ln:Int)→
 R (returned (Value.bool true)) w1))):Calls Tryz.prog 10 #[slice la ln lc] w R :=
 fnc0 (an:={ loops:=[⟨4,[3],[2,7,8,9,10,11,12,13,14,15,16,17,18,19,20,21,22,23,24,25,26,27,28,29,30,31,32,33,34,35,36,37,38,39],[]⟩] }) (args:=[.a (.c (.v (.slice la ln lc)))]) Tryz_ok Tryz.func10 (by kernel_rfl) rfl rfl h
theorem lnum_vc{n:Int}{w:World}{R:Ending→World→Prop}
 (h :
 ∀k1,w.heap.size≤k1→
 ∀w1,KpL [] w w1→
 Hb w1 k1 #[int i64 2,int i64 n,int i64 1,string (ByteArray.mk #[])] 161→
 R (returned (slice (some (Addr.mk k1 0 none)) 1 1)) w1):Calls Tryz.prog 91 #[int i64 n] w R :=
 fnc0 (an:={}) (args:=[.a (.c (.v (.int .i64 n)))]) Tryz_ok Tryz.func91 (by kernel_rfl) rfl rfl h
theorem lnum2_vc{n:Int}{w:World}{R:Ending→World→Prop}
 (h :
 ∀k1,w.heap.size≤k1→
 ∀w1,KpL [] w w1→
 Hb w1 k1 #[int i64 2,int i64 n,int i64 1,string (ByteArray.mk #[])] 161→
 R (returned (slice (some (Addr.mk k1 0 none)) 1 1)) w1):Calls Tryz.prog 149 #[int i64 n] w R :=
 fnc0 (an:={}) (args:=[.a (.c (.v (.int .i64 n)))]) Tryz_ok Tryz.func149 (by kernel_rfl) rfl rfl h
theorem lbatch_vc{t:ByteArray}{n:Int}{ca:Option Addr}{cn cc:Nat}{w:World}{R:Ending→World→Prop}
 (h :
 ∀k1,w.heap.size≤k1→
 ∀w1,KpL [] w w1→
 R (returned (agg #[string t,int i64 n,string (ByteArray.mk #[116]),slice ca cn cc])) w1):Calls Tryz.prog 25 #[string t,int i64 n,slice ca cn cc] w R :=
 fnc0 (an:={}) (args:=[.a (.c (.v (.string t))),.a (.c (.v (.int .i64 n))),.a (.c (.v (.slice ca cn cc)))]) Tryz_ok Tryz.func25 (by kernel_rfl) rfl rfl h
theorem lat_vc{x:Int}{y:Int}{na:Option Addr}{nn nc:Nat}{w:World}{R:Ending→World→Prop}
 (h :
 ∀k1,w.heap.size≤k1→
 ∀k2,w.heap.size≤k2→
 ∀k3,w.heap.size≤k3→
 ((0:Int)<(↑nn:Int)→
 ∃d1,na=some d1∧
 (0:Int)≤(0:Int)∧
 (0:Int)<(↑nn:Int)∧
 ∃n1,LdA w (d1.add (Int.toNat 0*1)) [int i64 n1]∧
 ∀w1,KpL [] w w1→
 Hb w1 k3 #[slice (some (Addr.mk k2 0 none)) 2 2,slice none 0 0] 81∧
 Hb w1 k2 #[int i64 x,int i64 y] 3∧
 Hb w1 k1 #[slice none 0 0,slice none 0 0] 81→
 CallW Tryz.prog 91 #[int i64 n1] w1 fun e1 w2 =>
 ∃a1 k4 k5,e1=returned (slice a1 k4 k5)∧
 KpL [] w1 w2∧
 ∀w3,KpL [k1,k3] w2 w3→
 Hb w3 k3 #[slice (some (Addr.mk k2 0 none)) 2 2,slice a1 k4 k5] 81∧
 Hb w3 k2 #[int i64 x,int i64 y] 3∧
 Hb w3 k1 #[slice (some (Addr.mk k2 0 none)) 2 2,slice a1 k4 k5] 81→
 R (returned (agg #[slice (some (Addr.mk k2 0 none)) 2 2,slice a1 k4 k5])) w3)∧
 (¬(0:Int)<(↑nn:Int)→
 ∀w4,KpL [] w w4→
 Hb w4 k3 #[slice (some (Addr.mk k2 0 none)) 2 2,slice none 0 0] 81∧
 Hb w4 k2 #[int i64 x,int i64 y] 3∧
 Hb w4 k1 #[slice (some (Addr.mk k2 0 none)) 2 2,slice none 0 0] 81→
 R (returned (agg #[slice (some (Addr.mk k2 0 none)) 2 2,slice none 0 0])) w4)):Calls Tryz.prog 26 #[int i64 x,int i64 y,slice na nn nc] w R :=
 fnc0 (an:={ all:=true }) (args:=[.a (.c (.v (.int .i64 x))),.a (.c (.v (.int .i64 y))),.a (.c (.v (.slice na nn nc)))]) Tryz_ok Tryz.func26 (by kernel_rfl) rfl rfl h
theorem lput_vc{s:Nat}{tok:ByteArray}{stp:Int}{arn:ByteArray}{ca:Option Addr}{cn cc:Nat}{w:World}{R:Ending→World→Prop}
 (h :
 ∀k1,w.heap.size≤k1→
 ∀w1,KpL [] w w1→
 CallW Tryz.prog 13 (#[pointer (some (Addr.mk s 0 none)),agg #[string tok,int i64 stp,string arn,slice ca cn cc]]) w1 fun e1 w2 =>
 ∃b1 n1,e1=returned (tuple #[Value.bool b1,int i64 n1])∧
 ∃l1,KpL l1 w1 w2∧
 NotIn k1 l1∧
 (b1=true→
 R (returned (Value.bool (decide (n1=0)))) w2)∧
 (b1=false→
 R (returned (Value.bool false)) w2)):Calls Tryz.prog 27 #[pointer (some (Addr.mk s 0 none)),agg #[string tok,int i64 stp,string arn,slice ca cn cc]] w R :=
 fnc0 (an:={ muts:=[13] }) (args:=[.a (.c (.v (.pointer (some ⟨s,0,none⟩)))),.a (.agg [.v (.string tok),.v (.int .i64 stp),.v (.string arn),.v (.slice ca cn cc)])]) Tryz_ok Tryz.func27 (by kernel_rfl) rfl rfl h
theorem lArray_vc{u:Nat}{w:World}{R:Ending→World→Prop}
 (h :
 ∀k1,w.heap.size≤k1→
 ∀k2,w.heap.size≤k2→
 ∀k3,w.heap.size≤k3→
 ∀k4,w.heap.size≤k4→
 FuncOk Tryz.prog 149∧
 ∀w1,KpL [] w w1→
 Hb w1 k4 #[int i64 0,int i64 0] 3∧
 Hb w1 k3 #[string (ByteArray.mk #[118]),int i64 2] 156∧
 Hb w1 k2 #[string (ByteArray.mk #[120]),int i64 0,int i64 3,string (ByteArray.mk #[121]),int i64 0,int i64 1] 153∧
 Hb w1 k1 #[slice none 0 0,slice none 0 0,slice none 0 0] 58→
 CallW Tryz.prog 149 #[int i64 5] w1 fun e1 w2 =>
 ∃a1 k5 k6,e1=returned (slice a1 k5 k6)∧
 ∃l1,KpL l1 w1 w2∧
 (NotIn k4 l1∧
 NotIn k3 l1∧
 NotIn k2 l1∧
 NotIn k1 l1)∧
 ∀k7,w2.heap.size≤k7→
 FuncOk Tryz.prog 149∧
 ∀w3,KpL [] w2 w3→
 Hb w3 k7 #[int i64 1,int i64 0] 3∧
 Hb w3 k4 #[int i64 0,int i64 0] 3∧
 Hb w3 k3 #[string (ByteArray.mk #[118]),int i64 2] 156∧
 Hb w3 k2 #[string (ByteArray.mk #[120]),int i64 0,int i64 3,string (ByteArray.mk #[121]),int i64 0,int i64 1] 153∧
 Hb w3 k1 #[slice none 0 0,slice none 0 0,slice none 0 0] 58→
 CallW Tryz.prog 149 #[int i64 7] w3 fun e2 w4 =>
 ∃a2 k8 k9,e2=returned (slice a2 k8 k9)∧
 ∃l2,KpL l2 w3 w4∧
 (NotIn k7 l2∧
 NotIn k4 l2∧
 NotIn k3 l2∧
 NotIn k2 l2∧
 NotIn k1 l2)∧
 ∀k10,w4.heap.size≤k10→
 ∀k11,w4.heap.size≤k11→
 ∀k12,w4.heap.size≤k12→
 FuncOk Tryz.prog 149∧
 ∀w5,KpL [] w4 w5→
 Hb w5 k12 #[int i64 3,int i64 1] 3∧
 Hb w5 k11 #[int i64 0,int i64 1,int i64 0,string (ByteArray.mk #[])] 161∧
 Hb w5 k10 #[int i64 1,int i64 1] 3∧
 Hb w5 k7 #[int i64 1,int i64 0] 3∧
 Hb w5 k4 #[int i64 0,int i64 0] 3∧
 Hb w5 k3 #[string (ByteArray.mk #[118]),int i64 2] 156∧
 Hb w5 k2 #[string (ByteArray.mk #[120]),int i64 0,int i64 3,string (ByteArray.mk #[121]),int i64 0,int i64 1] 153∧
 Hb w5 k1 #[slice none 0 0,slice none 0 0,slice none 0 0] 58→
 CallW Tryz.prog 149 #[int i64 2] w5 fun e3 w6 =>
 ∃a3 k13 k14,e3=returned (slice a3 k13 k14)∧
 ∃l3,KpL l3 w5 w6∧
 (NotIn k12 l3∧
 NotIn k11 l3∧
 NotIn k10 l3∧
 NotIn k7 l3∧
 NotIn k4 l3∧
 NotIn k3 l3∧
 NotIn k2 l3∧
 NotIn k1 l3)∧
 ∀k15,w6.heap.size≤k15→
 ∀w7,KpL [k1] w6 w7→
 Hb w7 k15 #[slice (some (Addr.mk k4 0 none)) 2 2,slice a1 k5 k6,slice (some (Addr.mk k7 0 none)) 2 2,slice a2 k8 k9,slice (some (Addr.mk k10 0 none)) 2 2,slice (some (Addr.mk k11 0 none)) 1 1,slice (some (Addr.mk k12 0 none)) 2 2,slice a3 k13 k14] 147∧
 Hb w7 k12 #[int i64 3,int i64 1] 3∧
 Hb w7 k11 #[int i64 0,int i64 1,int i64 0,string (ByteArray.mk #[])] 161∧
 Hb w7 k10 #[int i64 1,int i64 1] 3∧
 Hb w7 k7 #[int i64 1,int i64 0] 3∧
 Hb w7 k4 #[int i64 0,int i64 0] 3∧
 Hb w7 k3 #[string (ByteArray.mk #[118]),int i64 2] 156∧
 Hb w7 k2 #[string (ByteArray.mk #[120]),int i64 0,int i64 3,string (ByteArray.mk #[121]),int i64 0,int i64 1] 153∧
 Hb w7 k1 #[slice (some (Addr.mk k2 0 none)) 2 2,slice (some (Addr.mk k3 0 none)) 1 1,slice (some (Addr.mk k15 0 none)) 4 4] 58→
 R (returned (agg #[slice (some (Addr.mk k2 0 none)) 2 2,slice (some (Addr.mk k3 0 none)) 1 1,slice (some (Addr.mk k15 0 none)) 4 4])) w7):Calls Tryz.prog 96 #[] w R :=
 fnc0 (an:={ all:=true }) (args:=[]) Tryz_ok Tryz.func96 (by kernel_rfl) rfl rfl h
theorem lexample_vc{u:Nat}{w:World}{R:Ending→World→Prop}
 (h :
 CallW Tryz.prog 96 #[] w fun e1 w1 =>
 ∃a1 k1 k2 a2 k3 k4 a3 k5 k6,e1=returned (agg #[slice a1 k1 k2,slice a2 k3 k4,slice a3 k5 k6])∧
 KpL [] w w1∧
 ∀k7,w1.heap.size≤k7→
 ∀k8,w1.heap.size≤k8→
 ∀w2,KpL [] w1 w2→
 Hb w2 k8 #[string (ByteArray.mk #[116]),slice a1 k1 k2,slice a2 k3 k4,slice none 0 0] 60→
 R (returned (slice (some (Addr.mk k8 0 none)) 1 1)) w2):Calls Tryz.prog 36 #[] w R :=
 fnc0 (an:={}) (args:=[]) Tryz_ok Tryz.func36 (by kernel_rfl) rfl rfl h
end Go.Vc
namespace Go.Vc
open Go Go.Proofs
def ResB(P:Prop)(w:World)(e:Ending)(w':World):Prop:=∃b:Bool,e=.returned (.bool b)∧KpL [] w w'∧(b=true→P)
theorem ResB.no{P:Prop}{w w':World}(k:KpL [] w w'):ResB P w (.returned (.bool false)) w':=⟨false,rfl,k,fun h=>by cases h⟩
theorem ResB.yes{P:Prop}{w w':World}(k:KpL [] w w')(h:P):ResB P w (.returned (.bool true)) w':=⟨true,rfl,k,fun _=>h⟩
theorem lshort_ok(s:ByteArray)(w:World):Calls Tryz.prog 150 #[.string s] w (ResB True w):=lshort_vc ⟨_,rfl,KpL.refl _ _,fun _=>trivial⟩
theorem lschema_ok{M1 M2:List Nat}{w:World}{ds:List Dim}{ats:List Attr}{a b:Option Addr}{n c m r:Nat}(h1:R (tSl tDim) M1 w ds [.slice a n c])(h2:R (tSl tAttr) M2 w ats [.slice b m r]):Calls Tryz.prog 101 #[.slice a n c,.slice b m r] w (ResB True w):=by
 obtain⟨rfl,_,_⟩:=h1.sl_len
 obtain⟨rfl,_,_⟩:=h2.sl_len
 have hmx:maxSl=140737488355328:=rfl
 refine lschema_vc ⟨fun g1=>⟨fun _=>.no (KpL.refl _ _),fun g2=>?_⟩,fun _=>.no (KpL.refl _ _)⟩
 refine⟨fun vs w'=>∃i:Nat,vs=[.int .i64 (i:Int)]∧i≤ds.length∧KpL [] w w',fun vs _=>match vs with|[.int _ i]=>ds.length - i.toNat|_=>0,⟨0,rfl,by omega,KpL.refl _ _⟩,?_⟩
 rintro n1 w1 ⟨i,hv,hi,hk⟩
 simp only[List.cons.injEq,Value.int.injEq,true_and,and_true]at hv
 subst hv
 constructor
 ·intro hlt
  obtain⟨ad,cs,rfl,hv1,_,_,_,hpt⟩:=(h1.kp0 hk).sl_get2 (i:=i) (by omega)
  obtain⟨rfl,_⟩:=hv1.dim
  refine⟨ad,rfl,by omega,hlt,_,hpt 0 [_] rfl,⟨(lshort_ok _ w1).mono ?_⟩⟩
  rintro e w2 ⟨bb,rfl,hk2,_⟩
  exact⟨_,rfl,hk2,fun _=>.no (hk.trans hk2),fun _=>⟨ini_i64.2 (by omega),⟨i+1,rfl,by omega,hk.trans hk2⟩,by dsimp only;omega⟩⟩
 ·intro _
  refine⟨fun vs w'=>∃i:Nat,vs=[.int .i64 (i:Int)]∧i≤ats.length∧KpL [] w w',fun vs _=>match vs with|[.int _ i]=>ats.length - i.toNat|_=>0,⟨0,rfl,by omega,hk⟩,?_⟩
  rintro n1 w3 ⟨j,hv,hj,hk3⟩
  simp only[List.cons.injEq,Value.int.injEq,true_and,and_true]at hv
  subst hv
  constructor
  ·intro hlt
   obtain⟨ad,cs,rfl,hv1,_,_,_,hpt⟩:=(h2.kp0 hk3).sl_get2 (i:=j) (by omega)
   obtain⟨rfl,_⟩:=hv1.attr
   refine⟨ad,rfl,by omega,hlt,_,hpt 0 [_] rfl,⟨(lshort_ok _ w3).mono ?_⟩⟩
   rintro e w4 ⟨bb,rfl,hk4,_⟩
   exact⟨_,rfl,hk4,fun _=>.no (hk3.trans hk4),fun _=>⟨ini_i64.2 (by omega),⟨j+1,rfl,by omega,hk3.trans hk4⟩,by dsimp only;omega⟩⟩
  ·intro _
   exact .yes hk3 trivial
theorem lcells_ok{M:List Nat}{w:World}{cs:List Cell}{a:Option Addr}{n c:Nat}{k:Int}(h:R (tSl tCell) M w cs [.slice a n c]):Calls Tryz.prog 102 #[.slice a n c,.int .i64 k] w (ResB ((cs.length:Int)≤k) w):=by
 obtain⟨rfl,_,_⟩:=h.sl_len
 have hmx:maxSl=140737488355328:=rfl
 refine lcells_vc ⟨fun _=>.no (KpL.refl _ _),fun g1=>?_⟩
 refine⟨fun vs w'=>∃i:Nat,vs=[.int .i64 (i:Int)]∧i≤cs.length∧KpL [] w w',fun vs _=>match vs with|[.int _ i]=>cs.length - i.toNat|_=>0,⟨0,rfl,by omega,KpL.refl _ _⟩,?_⟩
 rintro n1 w1 ⟨i,hv,hi,hk⟩
 simp only[List.cons.injEq,Value.int.injEq,true_and,and_true]at hv
 subst hv
 constructor
 ·intro hlt
  have get:∀{w':World},KpL [] w w'→∃ad a1 k1 k2 a2 k3 k4,a=some ad∧R (tSl tVal) M w' cs[i].vals [.slice a2 k3 k4]∧LdA w' ((ad.add (i*2)).add 0) [.slice a1 k1 k2]∧LdA w' ((ad.add (i*2)).add 1) [.slice a2 k3 k4]:=by
   intro w' hk'
   obtain⟨ad,cs',rfl,hv1,_,_,_,hpt⟩:=(h.kp0 hk').sl_get2 (i:=i) (by omega)
   obtain⟨a1,k1,k2,a2,k3,k4,rfl,_,y2⟩:=hv1.cell
   exact⟨ad,a1,k1,k2,a2,k3,k4,rfl,y2,hpt 0 [_] rfl,hpt 1 [_] rfl⟩
  obtain⟨ad,a1,k1,k2,a2,k3,k4,rfl,y2,l1,l2⟩:=get hk
  refine⟨ad,rfl,by omega,hlt,a1,k1,k2,l1,fun _=>⟨ad,rfl,by omega,hlt,a2,k3,k4,l2,fun _=>.no hk,fun _=>?_⟩,fun _=>.no hk⟩
  refine⟨fun vs w'=>∃j:Nat,vs=[.int .i64 (j:Int)]∧j≤cs[i].vals.length∧KpL [] w w',fun vs _=>match vs with|[.int _ j]=>cs[i].vals.length - j.toNat|_=>0,⟨0,rfl,by omega,hk⟩,?_⟩
  rintro n2 w2 ⟨j,hv,hj,hk2⟩
  simp only[List.cons.injEq,Value.int.injEq,true_and,and_true]at hv
  subst hv
  obtain⟨ad',b1,q1,q2,b2,q3,q4,had,z2,m1,m2⟩:=get hk2
  simp only[Option.some.injEq]at had
  subst had
  obtain⟨hq3,_,hqm⟩:=z2.sl_len
  refine⟨ad,rfl,by omega,hlt,b2,q3,q4,m2,fun hjl=>?_,fun _=>⟨ini_i64.2 (by omega),⟨i+1,rfl,by omega,hk2⟩,by dsimp only;omega⟩⟩
  obtain⟨ad5,cs5,rfl,hv5,_,_,_,hpt5⟩:=z2.sl_get2 (i:=j) (by omega)
  obtain⟨rfl,_⟩:=hv5.val
  refine⟨ad,rfl,by omega,hlt,_,q3,q4,m2,ad5,rfl,by omega,hjl,_,hpt5 3 [_] rfl,⟨(lshort_ok _ w2).mono ?_⟩⟩
  rintro e w3 ⟨bb,rfl,hk3,_⟩
  exact⟨_,rfl,hk3,fun _=>.no (hk2.trans hk3),fun _=>⟨ini_i64.2 (by omega),⟨j+1,rfl,by omega,hk2.trans hk3⟩,by dsimp only;omega⟩⟩
 ·intro _
  exact .yes hk (by omega)
theorem lFew_ok{M1 M2 M3:List Nat}{w:World}{x:Arr}{a1 a2 a3:Option Addr}{n1 c1 n2 c2 n3 c3:Nat}{k:Int}(h1:R (tSl tDim) M1 w x.dims [.slice a1 n1 c1])(h2:R (tSl tAttr) M2 w x.attrs [.slice a2 n2 c2])(h3:R (tSl tCell) M3 w x.cells [.slice a3 n3 c3]):
 Calls Tryz.prog 44 #[.agg #[.slice a1 n1 c1,.slice a2 n2 c2,.slice a3 n3 c3],.int .i64 k] w (ResB ((x.cells.length:Int)≤k) w):=by
 refine lFew_vc fun k1 hk1 w1 hw1=>⟨(lschema_ok (h1.kp0 hw1) (h2.kp0 hw1)).mono ?_⟩
 rintro e w2 ⟨b,rfl,hw2,_⟩
 refine⟨_,rfl,hw2,fun _=>⟨(lcells_ok (k:=k) (h3.kp0 (hw1.trans hw2))).mono ?_⟩,fun _=>.no (hw1.trans hw2)⟩
 rintro e w3 ⟨b2,rfl,hw3,hh⟩
 exact⟨_,rfl,hw3,b2,rfl,(hw1.trans hw2).trans hw3,hh⟩
theorem lfew_ok{M:List Nat}{w:World}{db:List Nm}{a:Option Addr}{n c:Nat}(h:R (tSl tNm) M w db [.slice a n c]):Calls Tryz.prog 8 #[.slice a n c] w (ResB (db.length≤4∧∀x∈db,x.arr.cells.length≤8) w):=by
 obtain⟨rfl,_,_⟩:=h.sl_len
 have hmx:maxSl=140737488355328:=rfl
 refine lfew_vc ⟨fun _=>.no (KpL.refl _ _),fun g1=>?_⟩
 refine⟨fun vs w'=>∃i:Nat,vs=[.int .i64 (i:Int)]∧i≤db.length∧KpL [] w w'∧∀x∈db.take i,x.arr.cells.length≤8,fun vs _=>match vs with|[.int _ i]=>db.length - i.toNat|_=>0,⟨0,rfl,by omega,KpL.refl _ _,by simp⟩,?_⟩
 rintro n1 w1 ⟨i,hv,hi,hk,hall⟩
 simp only[List.cons.injEq,Value.int.injEq,true_and,and_true]at hv
 subst hv
 constructor
 ·intro hlt
  have gi:i<db.length:=by omega
  obtain⟨ad,cs',rfl,hv1,_,_,_,hpt⟩:=(h.kp0 hk).sl_get2 gi
  obtain⟨b1,p1,q1,b2,p2,q2,b3,p3,q3,rfl,hsz,x1,x2,x3⟩:=hv1.nm
  refine⟨ad,rfl,by omega,hlt,_,hpt 0 [_] rfl,fun _=>⟨ad,rfl,by omega,hlt,_,_,_,_,_,_,_,_,_,hpt 1 [_,_,_] rfl,⟨(lFew_ok (k:=8) x1 x2 x3).mono ?_⟩⟩,fun _=>.no hk⟩
  rintro e w2 ⟨b,rfl,hw2,hh⟩
  refine⟨_,rfl,hw2,fun _=>.no (hk.trans hw2),fun hb=>⟨ini_i64.2 (by omega),⟨i+1,rfl,by omega,hk.trans hw2,fun x hx=>?_⟩,by dsimp only;omega⟩⟩
  rw[←List.take_append_getElem gi]at hx
  rcases List.mem_append.1 hx with hx|hx
  ·exact hall x hx
  ·simp at hx
   subst hx
   have:=hh (nb_f hb)
   omega
 ·intro hge
  refine .yes hk ⟨by omega,fun x hx=>hall x ?_⟩
  rw[List.take_of_length_le (by omega)]
  exact hx
end Go.Vc
namespace Go.Vc
open Go Go.Proofs
def tBt:Ty Bt:=tM (fun b=>((b.token,b.stamp),(b.array,b.changes))) (tP (tP tS (tI .i64)) (tP tS (tSl tCell)))
theorem R.bt{M:List Nat}{w:World}{b:Bt}{cs:List Value}(h:R tBt M w b cs):∃a n c,cs=[.string b.token,.int .i64 b.stamp,.string b.array,.slice a n c]∧b.token.size≤9223372036854775807∧InI .i64 b.stamp∧b.array.size≤9223372036854775807∧R (tSl tCell) M w b.changes [.slice a n c]:=by
 obtain⟨x,y,rfl,⟨x1,x2,rfl,⟨rfl,h1⟩,⟨rfl,h2⟩⟩,⟨y1,y2,rfl,⟨rfl,h3⟩,h4⟩⟩:=h
 obtain⟨a,c,rfl⟩:=R.sl_form (M:=M) (w:=w) h4
 exact⟨_,_,_,rfl,h1,h2,h3,h4⟩
structure Fl where
 after:Int
 picks:List Int
 again:Int
structure Stp where
 b:Bt
 compact:Bool
 fails:Bool
 fall:Fl
def tFl:Ty Fl:=tM (fun f=>(f.after,(f.picks,f.again))) (tP (tI .u16) (tP (tSl (tI .u8)) (tI .u8)))
def tStp:Ty Stp:=tM (fun s=>(s.b,(s.compact,(s.fails,s.fall)))) (tP tBt (tP tB (tP tB tFl)))
theorem R.fl{M:List Nat}{w:World}{f:Fl}{cs:List Value}(h:R tFl M w f cs):∃a n c,cs=[.int .u16 f.after,.slice a n c,.int .u8 f.again]∧R (tSl (tI .u8)) M w f.picks [.slice a n c]:=by
 obtain⟨x,y,rfl,⟨rfl,h1⟩,⟨y1,y2,rfl,h3,⟨rfl,h4⟩⟩⟩:=h
 obtain⟨a,c,rfl⟩:=R.sl_form (M:=M) (w:=w) h3
 exact⟨_,_,_,rfl,h3⟩
theorem R.stp{M:List Nat}{w:World}{s:Stp}{cs:List Value}(h:R tStp M w s cs):∃a n c b m d,cs=[.string s.b.token,.int .i64 s.b.stamp,.string s.b.array,.slice a n c,.bool s.compact,.bool s.fails,.int .u16 s.fall.after,.slice b m d,.int .u8 s.fall.again]∧R tBt M w s.b [.string s.b.token,.int .i64 s.b.stamp,.string s.b.array,.slice a n c]∧R (tSl (tI .u8)) M w s.fall.picks [.slice b m d]:=by
 obtain⟨x,y,rfl,hb,⟨y1,y2,rfl,h1,⟨z1,z2,rfl,h2,h3⟩⟩⟩:=h
 obtain⟨a,n,c,rfl,_,_,_,_⟩:=R.bt (M:=M) (w:=w) hb
 obtain⟨b,m,d,rfl,hp⟩:=R.fl (M:=M) (w:=w) h3
 have e1:y1=[.bool s.compact]:=h1
 have e2:z1=[.bool s.fails]:=h2
 subst e1 e2
 exact⟨_,_,_,_,_,_,rfl,hb,hp⟩
theorem lshortB_ok{M:List Nat}{w:World}{b:Bt}{a:Option Addr}{n c:Nat}(h:R (tSl tCell) M w b.changes [.slice a n c]):Calls Tryz.prog 18 #[.agg #[.string b.token,.int .i64 b.stamp,.string b.array,.slice a n c]] w (ResB (b.changes.length≤20) w):=by
 obtain⟨rfl,_,_⟩:=h.sl_len
 have hmx:maxSl=140737488355328:=rfl
 refine lshortB_vc fun k1 hk1=>⟨fun _=>⟨fun _=>⟨fun _ w1 hw1=>.no hw1,fun g1=>?_⟩,fun _ w6 hw6=>.no hw6⟩,fun _ w7 hw7=>.no hw7⟩
 refine⟨fun vs w'=>∃i:Nat,vs=[.int .i64 (i:Int)]∧i≤b.changes.length∧KpL [] w w',fun vs _=>match vs with|[.int _ i]=>b.changes.length - i.toNat|_=>0,fun w2 hw2=>⟨0,rfl,by omega,hw2⟩,?_⟩
 rintro n1 w3 ⟨i,hv,hi,hk⟩
 simp only[List.cons.injEq,Value.int.injEq,true_and,and_true]at hv
 subst hv
 constructor
 ·intro hlt
  have gi:i<b.changes.length:=by omega
  obtain⟨ad,cs,rfl,hv1,hld,_,_⟩:=(h.kp0 hk).sl_get gi
  obtain⟨a1,k2,k3,a2,k4,k5,rfl,x1,x2⟩:=hv1.cell
  refine⟨ad,rfl,by omega,hlt,_,_,_,_,_,_,hld,fun k6 hk6 w4 hw4 hkn4=>?_⟩
  have hR:R (tSl tCell) [] w4 [b.changes[i]] [.slice (some ⟨k6,0,none⟩) 1 1]:=by
   refine⟨_,_,rfl,Nat.le_refl _,by show(1:Nat)≤140737488355328;omega,fun _=>⟨k6,0,_,147,_,rfl,⟨block_lt hkn4,by simp⟩,hkn4,fun j y hy=>?_⟩⟩
   cases j with
   |succ j=>simp at hy
   |zero =>
    simp at hy
    subst hy
    refine⟨_,R.mkCell ((x1.kp0 hw4).weak (by simp)) ((x2.kp0 hw4).weak (by simp)),fun t v hv=>?_⟩
    have hsz:(tCell).sz=2:=rfl
    rw[hsz]
    match t,hv with
    |0,hv=>simpa using hv
    |1,hv=>simpa using hv
    |t+2,hv=>simp at hv
  refine⟨(lFew_ok (x:=⟨[],[],[b.changes[i]]⟩) (k:=1) (R.sl_nil _ [] _ _ _) (R.sl_nil _ [] _ _ _) hR).mono ?_⟩
  rintro e w5 ⟨bb,rfl,hw5,_⟩
  exact⟨_,rfl,hw5,fun _=>.no ((hk.trans hw4).trans hw5),fun _=>⟨ini_i64.2 (by omega),⟨i+1,rfl,by omega,(hk.trans hw4).trans hw5⟩,by dsimp only;omega⟩⟩
 ·intro _
  exact .yes hk (by omega)
end Go.Vc
namespace Go.Vc
open Go Go.Proofs
theorem lfits_ok{M:List Nat}{w:World}{l:List Stp}{a:Option Addr}{n c:Nat}(h:R (tSl tStp) M w l [.slice a n c]):Calls Tryz.prog 10 #[.slice a n c] w (ResB (l.length≤12∧∀s∈l,s.b.changes.length≤4∧s.fall.picks.length≤200) w):=by
 obtain⟨rfl,_,_⟩:=h.sl_len
 have hmx:maxSl=140737488355328:=rfl
 refine lfits_vc ⟨fun _=>.no (KpL.refl _ _),fun g1=>?_⟩
 refine⟨fun vs w'=>∃i:Nat,vs=[.int .i64 (i:Int)]∧i≤l.length∧KpL [] w w'∧∀s∈l.take i,s.b.changes.length≤4∧s.fall.picks.length≤200,fun vs _=>match vs with|[.int _ i]=>l.length - i.toNat|_=>0,⟨0,rfl,by omega,KpL.refl _ _,by simp⟩,?_⟩
 rintro n1 w1 ⟨i,hv,hi,hk,hall⟩
 simp only[List.cons.injEq,Value.int.injEq,true_and,and_true]at hv
 subst hv
 constructor
 ·intro hlt
  have gi:i<l.length:=by omega
  obtain⟨ad,cs,rfl,hv1,_,_,_,hpt⟩:=(h.kp0 hk).sl_get2 gi
  obtain⟨ca,cn,cc,pa,pn,pc,rfl,hb,hp⟩:=hv1.stp
  obtain⟨xa,xn,xc,hx,_,_,_,hch⟩:=hb.bt
  simp only[List.cons.injEq,Value.slice.injEq,true_and,and_true]at hx
  obtain⟨rfl,rfl,rfl⟩:=hx
  obtain⟨hcn,_,_⟩:=hch.sl_len
  obtain⟨hpn,_,_⟩:=hp.sl_len
  refine⟨ad,rfl,by omega,hlt,_,_,_,_,_,_,hpt 0 [_,_,_,_] rfl,⟨(lshortB_ok (b:=l[i].b) hch).mono ?_⟩⟩
  rintro e w2 ⟨bb,rfl,hw2,_⟩
  have e3:LdA w2 (((ad.add (i*9)).add 0).add 3) [.slice ca cn cc]:=by rw[addr0];exact(hpt 3 [_] rfl).kp hw2
  have e7:LdA w2 (((ad.add (i*9)).add 6).add 1) [.slice pa pn pc]:=by
   have:=(hpt 7 [.slice pa pn pc] rfl).kp hw2
   have ea:((ad.add (i*9)).add 6).add 1=(ad.add (i*9)).add 7:=by
    cases ad with
    |mk b o sp=>cases sp<;>simp[Addr.add]
   rw[ea];exact this
  refine⟨_,rfl,hw2,fun _=>⟨ad,rfl,by omega,hlt,_,_,_,e3,fun g4=>⟨ad,rfl,by omega,hlt,_,_,_,e7,fun _=>.no (hk.trans hw2),fun g5=>⟨ini_i64.2 (by omega),⟨i+1,rfl,by omega,hk.trans hw2,fun x hx=>?_⟩,by dsimp only;omega⟩⟩,fun _=>.no (hk.trans hw2)⟩,fun _=>.no (hk.trans hw2)⟩
  rw[←List.take_append_getElem gi]at hx
  rcases List.mem_append.1 hx with hx|hx
  ·exact hall x hx
  ·simp at hx
   subst hx
   omega
 ·intro hge
  refine .yes hk ⟨by omega,fun x hx=>hall x ?_⟩
  rw[List.take_of_length_le (by omega)]
  exact hx
def vNum(n:Int):Vl:=⟨2,n,1,ByteArray.empty⟩
theorem one_R{α:Type}{t:Ty α}{w:World}{k T:Nat}{cs:List Value}{x:α}{M:List Nat}(hk:w.heap[k]?=some (.cells cs.toArray T (0,0)))(hkM:k∉M)(hx:R t M w x cs):R (tSl t) M w [x] [.slice (some ⟨k,0,none⟩) 1 1]:=by
 refine⟨_,_,rfl,Nat.le_refl _,by show(1:Nat)≤140737488355328;omega,fun _=>⟨k,0,_,T,_,rfl,⟨block_lt hk,hkM⟩,hk,fun j y hy=>?_⟩⟩
 cases j with
 |succ j=>simp at hy
 |zero =>
  simp at hy
  subst hy
  refine⟨_,hx,fun t' v hv=>?_⟩
  simpa using hv
theorem lnum_ok{M:List Nat}{w:World}(hM:∀b∈M,b<w.heap.size){n:Int}(hn:InI .i64 n):Calls Tryz.prog 91 #[.int .i64 n] w fun e w'=>∃a c m,e=.returned (.slice a m c)∧KpL [] w w'∧R (tSl tVal) M w' [vNum n] [.slice a m c] :=
 lnum_vc fun k1 hk1 w1 hw1 hkn=>⟨_,_,_,rfl,hw1,one_R (t:=tVal) (x:=vNum n) hkn (fun hm=>by have:=hM k1 hm;omega) ⟨rfl,ini_i64.2 (by simp[vNum]),hn,ini_i64.2 (by simp[vNum]),by simp[vNum]⟩⟩
theorem lbatch_ok(w:World)(t:ByteArray)(n:Int)(a:Option Addr)(m c:Nat):Calls Tryz.prog 25 #[.string t,.int .i64 n,.slice a m c] w (PureR (.agg #[.string t,.int .i64 n,.string ⟨#[116]⟩,.slice a m c]) w) :=
 lbatch_vc fun _ _ w1 hw1=>⟨rfl,hw1⟩
end Go.Vc
namespace Go.Vc
open Go Go.Proofs
theorem two_R{k:IntKind}{w:World}{b T:Nat}{x y:Int}{M:List Nat}(hk:w.heap[b]?=some (.cells #[.int k x,.int k y] T (0,0)))(hkM:b∉M)(hx:InI k x)(hy:InI k y):R (tSl (tI k)) M w [x,y] [.slice (some ⟨b,0,none⟩) 2 2]:=by
 refine⟨_,_,rfl,Nat.le_refl _,by show(2:Nat)≤140737488355328;omega,fun _=>⟨b,0,_,T,_,rfl,⟨block_lt hk,hkM⟩,hk,fun j z hz=>?_⟩⟩
 match j,hz with
 |0,hz =>
  simp at hz
  subst hz
  refine⟨_,⟨rfl,hx⟩,fun t v hv=>?_⟩
  match t,hv with
  |0,hv=>simpa using hv
  |t+1,hv=>simp at hv
 |1,hz =>
  simp at hz
  subst hz
  refine⟨_,⟨rfl,hy⟩,fun t v hv=>?_⟩
  match t,hv with
  |0,hv=>simpa[tI]using hv
  |t+1,hv=>simp at hv
 |j+2,hz=>simp at hz
theorem lat_ok{M Mn:List Nat}{w:World}(hM:∀b∈M,b<w.heap.size){x y:Int}{ns:List Int}{a:Option Addr}{n c:Nat}(hx:InI .i64 x)(hy:InI .i64 y)(hn:R (tSl (tI .i64)) Mn w ns [.slice a n c]):
 Calls Tryz.prog 26 #[.int .i64 x,.int .i64 y,.slice a n c] w fun e w'=>∃a1 n1 c1 a2 n2 c2,e=.returned (.agg #[.slice a1 n1 c1,.slice a2 n2 c2])∧KpL [] w w'∧R tCell M w' ⟨[x,y],(ns.take 1).map vNum⟩ [.slice a1 n1 c1,.slice a2 n2 c2]:=by
 obtain⟨rfl,_,_⟩:=hn.sl_len
 refine lat_vc fun k1 hk1 k2 hk2 k3 hk3=>⟨fun hpos=>?_,fun hz w4 hw4 hkn4=>?_⟩
 ·have h0:0<ns.length:=by omega
  obtain⟨ad,cs,rfl,hv1,hld,_,_⟩:=hn.sl_get h0
  obtain⟨rfl,hin⟩:=hv1.intD
  refine⟨ad,rfl,by omega,hpos,_,hld,fun w1 hw1 hkn1=>?_⟩
  have b1:=block_lt hkn1.2.2
  have b2:=block_lt hkn1.2.1
  have b3:=block_lt hkn1.1
  refine⟨(lnum_ok (M:=k1::k2::k3::M) (fun b hb=>?_) hin).mono ?_⟩
  ·simp only[List.mem_cons]at hb
   rcases hb with rfl|rfl|rfl|hb
   ·omega
   ·omega
   ·omega
   ·have:=hM b hb;have:=hw1.size;omega
  rintro e w2 ⟨a1,c1,m1,rfl,hw2,hR⟩
  refine⟨_,_,_,rfl,hw2,fun w3 hw3 hkn3=>⟨_,_,_,_,_,_,rfl,(hw1.trans hw2).more hw3 (by simp;omega),R.mkCell (two_R hkn3.2.1 (fun hm=>by have:=hM k2 hm;omega) hx hy) ?_⟩⟩
  have e1:(ns.take 1).map vNum=[vNum ns[0]]:=by
   cases ns with
   |nil=>simp at h0
   |cons z r=>simp
  dsimp only
  rw[e1]
  exact(hR.kp hw3 (by simp)).weak fun b hb=>by simp[hb]
 ·have h0:ns=[]:=List.eq_nil_of_length_eq_zero (by omega)
  subst h0
  exact⟨_,_,_,_,_,_,rfl,hw4,R.mkCell (two_R hkn4.2.1 (fun hm=>by have:=hM k2 hm;omega) hx hy) (R.sl_nil _ _ _ _ _)⟩
end Go.Vc
namespace Go.Vc
open Go Go.Proofs
theorem pair_R{α:Type}{t:Ty α}{w:World}{b T:Nat}{c1 c2:List Value}{x y:α}{M:List Nat}(hk:w.heap[b]?=some (.cells (c1++c2).toArray T (0,0)))(hkM:b∉M)(h1:R t M w x c1)(h2:R t M w y c2):R (tSl t) M w [x,y] [.slice (some ⟨b,0,none⟩) 2 2]:=by
 have l1:c1.length=t.sz:=t.len h1
 refine⟨_,_,rfl,Nat.le_refl _,by show(2:Nat)≤140737488355328;omega,fun _=>⟨b,0,_,T,_,rfl,⟨block_lt hk,hkM⟩,hk,fun j z hz=>?_⟩⟩
 match j,hz with
 |0,hz =>
  simp at hz
  subst hz
  refine⟨_,h1,fun i v hv=>?_⟩
  have hi:i<c1.length:=(List.getElem?_eq_some_iff.1 hv).1
  simp only[List.toList_toArray,Nat.zero_mul,Nat.zero_add]
  rw[List.getElem?_append_left hi]
  exact hv
 |1,hz =>
  simp at hz
  subst hz
  refine⟨_,h2,fun i v hv=>?_⟩
  simp only[List.toList_toArray,Nat.one_mul,Nat.zero_add]
  rw[List.getElem?_append_right (by omega),l1,Nat.add_sub_cancel_left]
  exact hv
 |j+2,hz=>simp at hz
def exDims:List Dim:=[⟨⟨#[120]⟩,0,3⟩,⟨⟨#[121]⟩,0,1⟩]
def exAttrs:List Attr:=[⟨⟨#[118]⟩,2⟩]
def exNm:Nm:=⟨⟨#[116]⟩,⟨exDims,exAttrs,[]⟩⟩
theorem lArray_ok{M:List Nat}{w:World}(hM:∀b∈M,b<w.heap.size):Calls Tryz.prog 96 #[] w fun e w'=>∃a1 n1 c1 a2 n2 c2 a3 n3 c3,e=.returned (.agg #[.slice a1 n1 c1,.slice a2 n2 c2,.slice a3 n3 c3])∧KpL [] w w'∧R (tSl tDim) M w' exDims [.slice a1 n1 c1]∧R (tSl tAttr) M w' exAttrs [.slice a2 n2 c2]:=by
 have fo:FuncOk Tryz.prog 149:=⟨_,_,Tryz.func149,rfl⟩
 have nm:∀(n:Int) (w:World),Calls Tryz.prog 149 #[.int .i64 n] w fun e w'=>∃a c m,e=.returned (.slice a m c)∧KpL [] w w':=fun n w=>lnum2_vc fun k1 hk1 w1 hw1 hkn=>⟨_,_,_,rfl,hw1⟩
 refine lArray_vc (u:=0) fun k1 hk1 k2 hk2 k3 hk3 k4 hk4=>⟨fo,fun w1 hw1 hkn1=>⟨(nm 5 w1).mono ?_⟩⟩
 rintro e w2 ⟨a1,c1,m1,rfl,hw2⟩
 refine⟨_,_,_,rfl,[],hw2,⟨⟨by simp⟩,⟨by simp⟩,⟨by simp⟩,⟨by simp⟩⟩,fun k7 hk7=>⟨fo,fun w3 hw3 hkn3=>⟨(nm 7 w3).mono ?_⟩⟩⟩
 rintro e w4 ⟨a2,c2,m2,rfl,hw4⟩
 refine⟨_,_,_,rfl,[],hw4,⟨⟨by simp⟩,⟨by simp⟩,⟨by simp⟩,⟨by simp⟩,⟨by simp⟩⟩,fun k10 hk10 k11 hk11 k12 hk12=>⟨fo,fun w5 hw5 hkn5=>⟨(nm 2 w5).mono ?_⟩⟩⟩
 rintro e w6 ⟨a3,c3,m3,rfl,hw6⟩
 refine⟨_,_,_,rfl,[],hw6,⟨⟨by simp⟩,⟨by simp⟩,⟨by simp⟩,⟨by simp⟩,⟨by simp⟩,⟨by simp⟩,⟨by simp⟩,⟨by simp⟩⟩,fun k15 hk15 w7 hw7 hkn7=>?_⟩
 obtain⟨_,_,_,_,_,_,q3,q2,_⟩:=hkn7
 have no:∀k,w.heap.size≤k→k∉M:=fun k hk hm=>by have:=hM k hm;omega
 refine⟨_,_,_,_,_,_,_,_,_,rfl,?_,?_,?_⟩
 ·exact(((((hw1.trans hw2).trans hw3).trans hw4).trans hw5).trans hw6).more hw7 (by simp;omega)
 ·exact pair_R (t:=tDim) (c1:=[_,_,_]) (c2:=[_,_,_]) q2 (no k2 hk2) ⟨rfl,by show(1:Nat)≤140737488355328;omega,ini_i64.2 (by dsimp only;omega),ini_i64.2 (by dsimp only;omega)⟩ ⟨rfl,by show(1:Nat)≤140737488355328;omega,ini_i64.2 (by dsimp only;omega),ini_i64.2 (by dsimp only;omega)⟩
 ·exact one_R (t:=tAttr) (cs:=[_,_]) q3 (no k3 hk3) ⟨rfl,by show(1:Nat)≤140737488355328;omega,ini_i64.2 (by dsimp only;omega)⟩
theorem lexample_ok{M:List Nat}{w:World}(hM:∀b∈M,b<w.heap.size):Calls Tryz.prog 36 #[] w fun e w'=>∃a n c,e=.returned (.slice a n c)∧KpL [] w w'∧R (tSl tNm) M w' [exNm] [.slice a n c]:=by
 refine lexample_vc (u:=0) ⟨(lArray_ok hM).mono ?_⟩
 rintro e w1 ⟨a1,n1,c1,a2,n2,c2,a3,n3,c3,rfl,hw1,h1,h2⟩
 refine⟨_,_,_,_,_,_,_,_,_,rfl,hw1,fun k7 hk7 k8 hk8 w2 hw2 hkn2=>⟨_,_,_,rfl,hw1.trans hw2,?_⟩⟩
 exact one_R (t:=tNm) (cs:=[_,_,_,_]) hkn2 (fun hm=>by have:=hM k8 hm;have:=hw1.size;omega) (R.mkNm (c:=exNm) (by show(1:Nat)≤9223372036854775807;omega) (h1.kp0 hw2) (h2.kp0 hw2) (R.sl_nil _ _ _ _ _))
end Go.Vc
namespace Go.Vc
open Go Go.Proofs
structure Like (s t:Sto):Prop where
 arr:s.arrays=t.arrays
 bat:s.batches=t.batches
 pls:s.places.Perm t.places
 us:s.use=t.use
theorem Like.symm{s t:Sto}(h:Like s t):Like t s:=⟨h.arr.symm,h.bat.symm,h.pls.symm,h.us.symm⟩
theorem Like.trans{s t u:Sto}(h:Like s t)(k:Like t u):Like s u:=⟨h.arr.trans k.arr,h.bat.trans k.bat,h.pls.trans k.pls,h.us.trans k.us⟩
theorem getM_none{κ β:Type}[DecidableEq κ]{l:List (κ×β)}{k:κ}(h:k∉l.map (·.1)):getM l k=none:=by
 unfold getM
 rw[List.find?_eq_none.2]
 ·rfl
 ·intro p hp
  simp only[decide_eq_true_eq]
  rintro rfl
  exact h (List.mem_map.2 ⟨p,hp,rfl⟩)
theorem getM_perm{κ β:Type}[DecidableEq κ]{l m:List (κ×β)}(h:l.Perm m)(nd:(l.map (·.1)).Nodup)(k:κ):getM l k=getM m k:=by
 have nd':(m.map (·.1)).Nodup:=(h.map _).nodup_iff.1 nd
 by_cases hk:k∈l.map (·.1)
 ·obtain⟨p,hp,rfl⟩:=List.mem_map.1 hk
  rw[getM_mem nd (v:=p.2) hp,getM_mem nd' (v:=p.2) (h.mem_iff.1 hp)]
 ·rw[getM_none hk,getM_none fun hm=>hk ((h.map _).mem_iff.2 hm)]
theorem putM_perm{κ β:Type}[DecidableEq κ]{l m:List (κ×β)}(h:l.Perm m)(k:κ)(v:β):(putM l k v).Perm (putM m k v):=by
 unfold putM
 have e:l.any (fun p=>decide (p.1=k))=m.any (fun p=>decide (p.1=k)):=h.any_eq
 rw[e]
 split
 ·exact h.map _
 ·exact h.append_right _
theorem putPs_perm{bs:List Seen}{n k:Int}:∀{l:List Cell} {p q:List (Pl×Sta)},p.Perm q→(p.map (·.1)).Nodup→(putPs bs n k p l).Perm (putPs bs n k q l)
 |[],p,q,h,_=>h
 |c::r,p,q,h,nd=>by
  have h1:(putP bs n k p c).Perm (putP bs n k q c):=by
   unfold putP
   rw[getM_perm h nd]
   split
   ·exact putM_perm h _ _
   ·exact h
  have nd1:((putP bs n k p c).map (·.1)).Nodup:=by
   unfold putP
   split
   ·exact putM_nd nd
   ·exact nd
  exact putPs_perm (l:=r) h1 nd1
theorem Like.commit{s t:Sto}(h:Like s t)(nd:(s.places.map (·.1)).Nodup)(b:Bt):Like (s.commit b) (t.commit b):=by
 refine⟨h.arr,by show s.batches++[b.seen]=t.batches++[b.seen];rw[h.bat],?_,by show s.use+b.weight=t.use+b.weight;rw[h.us]⟩
 show(putPs _ _ _ s.places b.changes).Perm (putPs _ _ _ t.places b.changes)
 rw[h.bat,h.arr]
 exact putPs_perm h.pls nd
theorem commits_arr:∀(bt:List Bt) (st:Sto),(st.commits bt).arrays=st.arrays
 |[],_=>rfl
 |b::r,st=>commits_arr r (st.commit b)
theorem commits_bat:∀(bt:List Bt) (st:Sto),(st.commits bt).batches=st.batches++bt.map Bt.seen
 |[],st=>by simp[Sto.commits]
 |b::r,st=>by
  have:=commits_bat r (st.commit b)
  have e:(st.commit b).batches=st.batches++[b.seen]:=rfl
  rw[e]at this
  show((st.commit b).commits r).batches=_
  rw[this]
  simp
theorem commits_snoc(st:Sto)(bt:List Bt)(b:Bt):st.commits (bt++[b])=(st.commits bt).commit b:=by unfold Sto.commits;rw[List.foldl_append];rfl
theorem StoV.like{s t:Sto}(h:StoV s)(k:Like s t):StoV t:=by
 obtain⟨a1,an,nms,nd,sch,cel,bn,bat,toks,pn,pls,keys,u0,u1⟩:=h
 obtain⟨ka,kb,kp,ku⟩:=k
 rw[ka]at a1 an nms nd sch cel pls
 rw[kb]at bn bat toks pls
 rw[ku]at u0 u1
 exact⟨a1,an,nms,nd,sch,cel,bn,bat,toks,by rw[←kp.length_eq];exact pn,fun p hp=>pls p (kp.mem_iff.2 hp),(kp.map _).nodup_iff.1 keys,u0,u1⟩
theorem StoV.withId{s:Sto}(h:StoV s)(i:Int):StoV { s with id:=i }:=⟨h.a1,h.an,h.nms,h.nd,h.sch,h.cel,h.bn,h.bat,h.toks,h.pn,h.pls,h.keys,h.u0,h.u1⟩
theorem StoV.withUse{s:Sto}(h:StoV s){u:Int}(h0:0≤u)(h1:u≤100000):StoV { s with use:=u }:=⟨h.a1,h.an,h.nms,h.nd,h.sch,h.cel,h.bn,h.bat,h.toks,h.pn,h.pls,h.keys,h0,h1⟩
theorem Like.withId(s:Sto)(i:Int):Like { s with id:=i } s:=⟨rfl,rfl,List.Perm.refl _,rfl⟩
end Go.Vc
namespace Go.Vc
open Go Go.Proofs
def Sto.low(st:Sto):Int:=1+8*st.arrays.length+3*st.places.length+st.batches.length
structure Lv (k:Dk) (num:Int) (nxt:Nat) (st:Sto):Prop where
 v:StoV st
 id:st.id=k.st
 k0:0≤k.st
 n1:k.n≤1024
 lo:st.low≤st.use
 hi:st.use≤k.half
 nx:(nxt:Int)≤st.use
 disk:∃bs ps bt,DkS k num nxt st.arrays bs ps bt∧StoV (baseSto st.arrays bs ps)∧(∀b∈bt,BtOk (baseSto st.arrays bs ps) b)∧Like ((baseSto st.arrays bs ps).commits bt) st
theorem Lv.ready{k:Dk}{num:Int}{nxt:Nat}{st:Sto}(h:Lv k num nxt st):readyE st k=0:=by
 obtain⟨bs,ps,bt,hD,_⟩:=h.disk
 unfold readyE
 rw[if_neg]
 rintro(hc|hc)
 ·rw[hD.cl.on]at hc;cases hc
 ·exact hc h.id
theorem Lv.n10{k:Dk}{num:Int}{nxt:Nat}{st:Sto}(h:Lv k num nxt st):10≤k.n:=by
 obtain⟨bs,ps,bt,hD,_⟩:=h.disk
 exact hD.n2
theorem Lv.half{k:Dk}{num:Int}{nxt:Nat}{st:Sto}(h:Lv k num nxt st):k.half≤511:=by
 have:=h.n1
 unfold Dk.half Dk.secs
 omega
theorem Lv.stoB{k:Dk}{num:Int}{nxt:Nat}{st:Sto}(h:Lv k num nxt st):StoB st :=
 ⟨h.v.an,h.v.sch,by have:=h.v.bn;omega,fun p hp=>⟨(h.v.pls p hp).b0,(h.v.pls p hp).b1⟩,h.v.u0,by have:=h.v.u1;omega⟩
def Sto.putS(st:Sto)(half:Nat)(b:Bt):Bool×Int×Sto :=
 if st.checkE b≠0 then (false,st.checkE b,st) else if st.batches.any (fun x=>decide (x.token=b.token))=true then (false,0,st)
 else if (half:Int)<st.use+b.weight then (false,18,st) else (true,0,st.commit b)
theorem Lv.put{k:Dk}{num:Int}{nxt:Nat}{st:Sto}(h:Lv k num nxt st)(b:Bt):
 (st.put k num nxt b).ok=(st.putS k.half b).1∧(st.put k num nxt b).e=(st.putS k.half b).2.1∧(st.put k num nxt b).st=(st.putS k.half b).2.2∧Lv (st.put k num nxt b).k num (st.put k num nxt b).nxt (st.putS k.half b).2.2∧
 (st.put k num nxt b).k.n=k.n∧(st.put k num nxt b).k.st=k.st∧(st.checkE b=0→st.use+b.weight≤k.half→AddOk k num nxt 2 (encB st.arrays b)):=by
 obtain⟨bs,ps,bt,hD,hB,hbt,hL⟩:=h.disk
 have hhalf:=h.half
 have hr:=h.ready
 have hadd:st.checkE b=0→st.use+b.weight≤k.half→nxt+secsOf (encB st.arrays b)<k.half∧(encB st.arrays b).length<16777216:=fun h1 h2=>by
  obtain⟨s1,s2⟩:=encB_secs h.v.sch h.v.an (checkE_ok h1)
  have:=h.nx
  unfold Bt.weight at h2
  exact⟨by omega,s2⟩
 have hAdd:st.checkE b=0→st.use+b.weight≤k.half→AddOk k num nxt 2 (encB st.arrays b):=fun h1 h2=>(hD.add (hadd h1 h2).1 (hadd h1 h2).2).2.2.2.2
 unfold Sto.put Sto.putS
 rw[if_neg (by simp[hr])]
 by_cases h1:st.checkE b≠0
 ·rw[if_pos h1,if_pos h1]
  exact⟨rfl,rfl,rfl,h,rfl,rfl,hAdd⟩
 rw[if_neg h1,if_neg h1]
 by_cases h2:st.batches.any (fun x=>decide (x.token=b.token))=true
 ·rw[if_pos h2,if_pos h2]
  exact⟨rfl,rfl,rfl,h,rfl,rfl,hAdd⟩
 rw[if_neg h2,if_neg h2]
 by_cases h3:(k.half:Int)<st.use+b.weight
 ·rw[if_pos h3,if_pos h3]
  exact⟨rfl,rfl,rfl,h,rfl,rfl,hAdd⟩
 rw[if_neg h3,if_neg h3]
 have h1':=Classical.not_not.1 h1
 have hbo:=checkE_ok h1'
 obtain⟨a1,a2,a3,a4,a5⟩:=hD.add (hadd h1' (by omega)).1 (hadd h1' (by omega)).2
 rw[if_neg (by simp[a1])]
 have hlo:=h.lo
 have hhi:=h.hi
 unfold Sto.low at hlo
 have hpl:=(putPs_nd (bs:=st.batches++[b.seen]) (n:=(st.batches.length+1:Nat)) (k:=findA_ st.arrays b.array) (l:=b.changes) h.v.keys).2
 have ew:b.weight=2+3*(b.changes.length:Int):=rfl
 have ht:∀x∈st.batches,x.token≠b.token:=fun x hx he=>h2 (List.any_eq_true.2 ⟨x,hx,by simpa using he⟩)
 have hh:(k.add num nxt 2 (encB st.arrays b)).2.half=k.half:=Dk.half_n a3
 refine⟨rfl,rfl,rfl,⟨h.v.commit hbo ht (by omega) (by omega) (by omega),?_,?_,?_,?_,?_,?_,bs,ps,bt++[b],a2,hB,?_,?_⟩,a3,a4,hAdd⟩
 ·show st.id=_
  rw[h.id];exact a4.symm
 ·show 0≤(k.add num nxt 2 (encB st.arrays b)).2.st
  rw[a4];exact h.k0
 ·show(k.add num nxt 2 (encB st.arrays b)).2.n≤1024
  rw[a3];exact h.n1
 ·show 1+8*(st.arrays.length:Int)+3*((putPs (st.batches++[b.seen]) (st.batches.length+1:Nat) (findA_ st.arrays b.array) st.places b.changes).length:Int)+((st.batches++[b.seen]).length:Int)≤st.use+b.weight
  rw[List.length_append,List.length_cons,List.length_nil]
  omega
 ·show st.use+b.weight≤(k.add num nxt 2 (encB st.arrays b)).2.half
  rw[hh];omega
 ·show((nxt+1+secsOf (encB st.arrays b):Nat):Int)≤st.use+b.weight
  have:=(encB_secs h.v.sch h.v.an hbo).1
  have:=h.nx
  omega
 ·intro b' hb'
  rcases List.mem_append.1 hb' with hb'|hb'
  ·exact hbt b' hb'
  ·simp at hb'
   subst hb'
   exact hbo.of_arr rfl
 ·rw[commits_snoc]
  exact hL.commit ((hL.pls.map _).nodup_iff.2 h.v.keys) b
theorem Lv.cmp{k:Dk}{num:Int}{nxt:Nat}{st:Sto}(h:Lv k num nxt st)(hnum:num+1<1000000){ps':List (Pl×Sta)}(hp:ps'.Perm st.places):
 (st.cmp k num nxt ps').e=0∧(st.cmp k num nxt ps').num=num+1∧(st.cmp k num nxt ps').st={ st with use:=st.low }∧Lv (st.cmp k num nxt ps').k (num+1) (st.cmp k num nxt ps').nxt { st with use:=st.low }∧(st.cmp k num nxt ps').k.n=k.n∧(st.cmp k num nxt ps').k.st=k.st∧
 AddOk (k.clear (num+1) 0).2 (num+1) 0 1 (encBase st.arrays st.batches ps')∧((k.clear (num+1) 0).2.add (num+1) 0 1 (encBase st.arrays st.batches ps')).2.pend.length≤1000000:=by
 obtain⟨bs,ps,bt,hD,hB,hbt,hL⟩:=h.disk
 have hhalf:=h.half
 have hr:=h.ready
 have hn1:=h.n1
 have hlo:=h.lo
 have hhi:=h.hi
 unfold Sto.low at hlo
 have hs:=encBase_secs h.v hp
 have hlen:=encBase_len h.v hp
 obtain⟨c1,c2,c3,c4,c5,c6,c7,c8⟩:=hD.cmp hnum (arrays':=st.arrays) (bs':=st.batches) (ps':=ps') (by omega) (by omega) (by omega)
 have e0:st.cmp k num nxt ps'=⟨0,{ st with use:=st.low },(((k.clear (num+1) 0).2.add (num+1) 0 1 (encBase st.arrays st.batches ps')).2.note (num+1)).2,num+1,0+1+secsOf (encBase st.arrays st.batches ps')⟩:=by
  unfold Sto.cmp
  rw[if_neg (by simp[hr]),if_neg (by simp[c1]),if_neg (by simp[c2]),if_neg (by simp[c3])]
  rfl
 rw[e0]
 have hh:(((k.clear (num+1) 0).2.add (num+1) 0 1 (encBase st.arrays st.batches ps')).2.note (num+1)).2.half=k.half:=Dk.half_n c5
 have hu:StoV { st with use:=st.low }:=h.v.withUse (by unfold Sto.low;omega) (by unfold Sto.low;omega)
 have hpl:=hp.length_eq
 refine⟨rfl,rfl,rfl,⟨hu,h.id.trans c6.symm,by dsimp only;rw[c6];exact h.k0,by dsimp only;rw[c5];exact h.n1,Int.le_refl _,?_,?_,st.batches,ps',[],c4,?_,by simp,?_⟩,c5,c6,c7,by rw[c8];simp⟩
 ·dsimp only
  rw[hh]
  unfold Sto.low;omega
 ·dsimp only
  unfold Sto.low;omega
 ·refine⟨hu.a1,hu.an,hu.nms,hu.nd,hu.sch,hu.cel,hu.bn,hu.bat,hu.toks,?_,fun p hpp=>hu.pls p (hp.mem_iff.1 hpp),(hp.map _).nodup_iff.2 hu.keys,?_,?_⟩
  ·show ps'.length≤4000
   rw[hpl];exact hu.pn
  ·show(0:Int)≤1+8*st.arrays.length+3*ps'.length+st.batches.length
   omega
  ·show(1:Int)+8*st.arrays.length+3*ps'.length+st.batches.length≤100000
   omega
 ·refine⟨rfl,rfl,hp,?_⟩
  show(1:Int)+8*st.arrays.length+3*ps'.length+st.batches.length=st.low
  unfold Sto.low
  rw[hpl]
theorem Lv.fmt{k:Dk}(h:Cl k)(h2:10≤k.n)(n1:k.n≤1024)(k0:0≤k.st){db:List Nm}(hdb:dbE db=0)(hne:db.length≠0)(hu:(fmtSto db).use≤k.half){ps':List (Pl×Sta)}(hp:ps'.Perm (fmtPl 0 db)):
 (k.fmt (encBase (db.map fmtArr) [] ps')).1=0∧(k.fmt (encBase (db.map fmtArr) [] ps')).2.st=k.st∧(k.fmt (encBase (db.map fmtArr) [] ps')).2.n=k.n∧AddOk k.zero.2 1 0 1 (encBase (db.map fmtArr) [] ps')∧(k.zero.2.add 1 0 1 (encBase (db.map fmtArr) [] ps')).2.pend=[]∧
 ∀i,i=k.st+1→Lv { (k.fmt (encBase (db.map fmtArr) [] ps')).2 with st:=i } 1 (0+1+secsOf (encBase (db.map fmtArr) [] ps')) { fmtSto db with id:=i }:=by
 have hhalf:k.half≤511:=by unfold Dk.half Dk.secs;omega
 have eu:(fmtSto db).use=1+8*((db.map fmtArr).length:Int)+3*((fmtPl 0 db).length:Int)+(([]:List Seen).length:Int):=rfl
 simp only[List.length_nil]at eu
 have hv:=fmtSto_ok hdb hne (by omega)
 have hs:=encBase_secs hv (ps:=ps') hp
 have hlen:=encBase_len hv (ps:=ps') hp
 have ea:(fmtSto db).arrays=db.map fmtArr:=rfl
 have eb:(fmtSto db).batches=[]:=rfl
 have ep:(fmtSto db).places=fmtPl 0 db:=rfl
 rw[ea,eb,ep]at hs hlen
 simp only[List.length_nil]at hs hlen
 obtain⟨f1,f2,f3,f4,f5,f6⟩:=DkS.format h h2 (arrays:=db.map fmtArr) (ps:=ps') (by omega) (by omega)
 have hpl:=hp.length_eq
 refine⟨f1,f4,f3,f5,f6,?_⟩
 rintro i rfl
 have hh:({ (k.fmt (encBase (db.map fmtArr) [] ps')).2 with st:=k.st+1 }:Dk).half=k.half:=Dk.half_n f3
 refine⟨hv.withId _,rfl,by dsimp only;omega,by dsimp only;rw[f3];exact n1,?_,?_,?_,[],ps',[],⟨⟨f2.cl.on,f2.cl.fu,f2.cl.len⟩,f2.n2,f2.num0,f2.num1,f2.note,f2.log,f2.pend⟩,?_,by simp,?_⟩
 ·unfold Sto.low
  show _≤(fmtSto db).use
  rw[eu]
  exact Int.le_refl _
 ·rw[hh];exact hu
 ·show _≤(fmtSto db).use
  rw[eu]
  omega
 ·refine⟨hv.a1,hv.an,hv.nms,hv.nd,hv.sch,hv.cel,hv.bn,hv.bat,hv.toks,?_,fun p hpp=>hv.pls p (hp.mem_iff.1 hpp),(hp.map _).nodup_iff.2 hv.keys,?_,?_⟩
  ·show ps'.length≤4000
   omega
  ·show(0:Int)≤1+8*(db.map fmtArr).length+3*ps'.length+(0:Nat)
   omega
  ·show(1:Int)+8*(db.map fmtArr).length+3*ps'.length+(0:Nat)≤100000
   omega
 ·refine⟨rfl,rfl,hp,?_⟩
  show(1:Int)+8*(db.map fmtArr).length+3*ps'.length+(0:Nat)=(fmtSto db).use
  rw[eu,hpl]
end Go.Vc
namespace Go.Vc
open Go Go.Proofs
def tearS(s b:List Int)(f t:Nat):List Int:=s.take f++((b.drop f).take (t - f)++s.drop t)
def tearP(l:List Int)(i:Nat)(b:List Int)(p:Int):List Int:=tear1 l i b (fromTo p).1 (fromTo p).2
def tearSP(s b:List Int)(p:Int):List Int:=tearS s b (fromTo p).1 (fromTo p).2
theorem tear_gen{l b:List Int}{i f t:Nat}(hi:i*64+64≤l.length)(hb:b.length=64)(h1:f≤t)(h2:t≤64):secOf (tear1 l i b f t) i=tearS (secOf l i) b f t∧(∀j,j≠i→secOf (tear1 l i b f t) j=secOf l j)∧(tear1 l i b f t).length=l.length:=by
 refine⟨?_,fun j hj=>?_,tear1_len h1 h2 hb hi⟩
 ·apply List.ext_getElem?
  intro m
  unfold tear1 tearS secOf
  simp only[List.getElem?_append,List.getElem?_take,List.getElem?_drop,List.length_take,List.length_drop,hb]
  repeat' split
  all_goals first
   |rfl
   |(exfalso;omega)
   |(congr 1;omega)
   |(rw[List.getElem?_eq_none (by omega)])
 ·apply List.ext_getElem?
  intro m
  unfold tear1 secOf
  simp only[List.getElem?_append,List.getElem?_take,List.getElem?_drop,List.length_take,List.length_drop,hb]
  repeat' split
  all_goals first
   |rfl
   |(exfalso;omega)
   |(congr 1;omega)
theorem fromTo_le'(p:Int):(fromTo p).1≤(fromTo p).2∧(fromTo p).2≤64:=by
 unfold fromTo
 split<;>simp<;>omega
theorem tearP_sec{l b:List Int}{i:Nat}{p:Int}(hi:i*64+64≤l.length)(hb:b.length=64):secOf (tearP l i b p) i=tearSP (secOf l i) b p∧(∀j,j≠i→secOf (tearP l i b p) j=secOf l j)∧(tearP l i b p).length=l.length :=
 tear_gen hi hb (fromTo_le' p).1 (fromTo_le' p).2
theorem tearSP_cases{s b:List Int}(hs:s.length=64)(hb:b.length=64)(p:Int):(∃m,m≤64∧tearSP s b p=b.take m++s.drop m)∨∃m,m≤64∧tearSP s b p=s.take (64 - m)++b.drop (64 - m):=by
 unfold tearSP tearS fromTo
 split
 ·refine .inr ⟨(p%65).toNat,by omega,?_⟩
  dsimp only
  rw[List.drop_eq_nil_of_le (show s.length≤64 by omega),List.append_nil,List.take_of_length_le (l:=b.drop (64 - (p%65).toNat)) (by simp;omega)]
 ·refine .inl ⟨(p%65).toNat,by omega,?_⟩
  simp
theorem tearAll_app(ps:List Int):∀(i:Nat) (l:List (Int×List Int)) (x:Int×List Int) (dur:List Int),tearAll ps i (l++[x]) dur=tearP (tearAll ps i l dur) x.1.toNat x.2 (pickOf ps (i+l.length))
 |i,[],x,dur=>rfl
 |i,y::r,x,dur=>by
  show tearAll ps (i+1) (r++[x]) _=_
  rw[tearAll_app ps (i+1) r x,List.length_cons]
  have:i+1+r.length=i+(r.length+1):=by omega
  rw[this]
  rfl
structure Ph (k:Dk) (Q:List Int→Prop):Prop where
 on:k.down=false
 ld:k.dur.length=64*k.n
 ln:k.now.length=64*k.n
 lt:∀ps,(tearAll ps 0 k.pend k.dur).length=64*k.n
 q:∀ps,Q (tearAll ps 0 k.pend k.dur)
structure Fell (k':Dk) (k:Dk) (Q:List Int→Prop):Prop where
 dn:k'.down=true
 pe:k'.pend=[]
 eq:k'.now=k'.dur
 len:k'.dur.length=64*k.n
 q:Q k'.dur
 n:k'.n=k.n
 st:k'.st=k.st
 fz:k'.fuse = -1
structure Qt (k:Dk):Prop where
 on:k.down=false
 pe:k.pend=[]
 eq:k.dur=k.now
 len:k.now.length=64*k.n
theorem Qt.ph{k:Dk}(h:Qt k){Q:List Int→Prop}(hq:Q k.now):Ph k Q:=by
 have e:∀ps,tearAll ps 0 k.pend k.dur=k.now:=fun ps=>by rw[h.pe];exact h.eq
 exact⟨h.on,by rw[h.eq];exact h.len,h.len,fun ps=>by rw[e];exact h.len,fun ps=>by rw[e];exact hq⟩
theorem Fell.mono{k' k:Dk}{Q Q':List Int→Prop}(h:Fell k' k Q)(hm:∀l,l.length=64*k.n→Q l→Q' l):Fell k' k Q':=⟨h.dn,h.pe,h.eq,h.len,hm _ h.len h.q,h.n,h.st,h.fz⟩
theorem Fell.of{k'' k' k:Dk}{Q:List Int→Prop}(h:Fell k'' k' Q)(hn:k'.n=k.n)(hs:k'.st=k.st):Fell k'' k Q:=⟨h.dn,h.pe,h.eq,by rw[h.len,hn],h.q,h.n.trans hn,h.st.trans hs,h.fz⟩
theorem Ph.write{k:Dk}{Q:List Int→Prop}(h:Ph k Q){i:Nat}{b:List Int}(hi:i<k.n)(hb:b.length=64)(hq:∀l p,l.length=64*k.n→(∃ps,l=tearAll ps 0 k.pend k.dur)→Q (tearP l i b p)):
 ((k.write i b).1=17∧Fell (k.write i b).2 k Q)∨
 ((k.write i b).1=0∧Ph (k.write i b).2 Q∧(k.write i b).2.n=k.n∧(k.write i b).2.st=k.st∧(k.write i b).2.pend=k.pend++[((i:Int),b)]∧(k.write i b).2.dur=k.dur∧secOf (k.write i b).2.now i=b∧∀j,j≠i→secOf (k.write i b).2.now j=secOf k.now j):=by
 have hl:=h.ln
 obtain⟨t1,t2,t3⟩:=tear_sec (l:=k.now) (i:=i) (by omega) hb
 have hfa:∀ps,tearAll ps 0 (k.put i b).pend (k.put i b).dur=tearP (tearAll ps 0 k.pend k.dur) i b (pickOf ps k.pend.length):=fun ps=>by
  show tearAll ps 0 (k.pend++[((i:Int),b)]) k.dur=_
  rw[tearAll_app]
  simp
 have hlen:∀ps,(tearAll ps 0 (k.put i b).pend (k.put i b).dur).length=64*k.n:=fun ps=>by
  have:=h.lt ps
  rw[hfa,(tearP_sec (by omega) hb).2.2];exact this
 have hQ:∀ps,Q (tearAll ps 0 (k.put i b).pend (k.put i b).dur):=fun ps=>by rw[hfa];exact hq _ _ (h.lt ps) ⟨ps,rfl⟩
 unfold Dk.write
 rw[if_neg (by simp[h.on])]
 unfold Dk.fails
 by_cases h0:(k.put i b).fuse=0
 ·left
  rw[if_pos h0]
  exact⟨rfl,rfl,rfl,rfl,hlen _,hQ _,rfl,rfl,rfl⟩
 ·right
  rw[if_neg h0]
  split
  ·exact⟨rfl,⟨h.on,h.ld,t3.trans hl,hlen,hQ⟩,rfl,rfl,rfl,rfl,t1,t2⟩
  ·exact⟨rfl,⟨h.on,h.ld,t3.trans hl,hlen,hQ⟩,rfl,rfl,rfl,rfl,t1,t2⟩
theorem Ph.sync{k:Dk}{Q:List Int→Prop}(h:Ph k Q):(k.sync.1=17∧Fell k.sync.2 k Q)∨(k.sync.1=0∧Qt k.sync.2∧k.sync.2.n=k.n∧k.sync.2.st=k.st∧k.sync.2.now=k.now):=by
 unfold Dk.sync
 rw[if_neg (by simp[h.on])]
 unfold Dk.fails
 by_cases h0:k.fuse=0
 ·left
  rw[if_pos h0,if_pos rfl]
  exact⟨rfl,rfl,rfl,rfl,h.lt _,h.q _,rfl,rfl,rfl⟩
 ·right
  rw[if_neg h0]
  split
  ·rw[if_neg (by simp)]
   exact⟨rfl,⟨h.on,rfl,rfl,h.ln⟩,rfl,rfl,rfl⟩
  ·rw[if_neg (by simp)]
   exact⟨rfl,⟨h.on,rfl,rfl,h.ln⟩,rfl,rfl,rfl⟩
def Clo(Q:List Int→Prop)(n i:Nat)(b:List Int):Prop:=∀l p,l.length=64*n→Q l→Q (tearP l i b p)
theorem Ph.writeC{k:Dk}{Q:List Int→Prop}(h:Ph k Q){i:Nat}{b:List Int}(hi:i<k.n)(hb:b.length=64)(hq:Clo Q k.n i b):
 ((k.write i b).1=17∧Fell (k.write i b).2 k Q)∨
 ((k.write i b).1=0∧Ph (k.write i b).2 Q∧(k.write i b).2.n=k.n∧(k.write i b).2.st=k.st∧(k.write i b).2.pend.length=k.pend.length+1∧secOf (k.write i b).2.now i=b∧∀j,j≠i→secOf (k.write i b).2.now j=secOf k.now j):=by
 rcases h.write hi hb (fun l p hl ⟨ps,hps⟩=>hq l p hl (by rw[hps];exact h.q ps)) with g|⟨g1,g2,g3,g4,g5,_,g7,g8⟩
 ·exact .inl g
 ·exact .inr ⟨g1,g2,g3,g4,by rw[g5];simp,g7,g8⟩
theorem Ph.add1L{Q:List Int→Prop}{at0:Nat}{b:List Int}:∀{f i:Nat} {k:Dk},Ph k Q→at0+i+f≤k.n→(∀j,i≤j→j<i+f→Clo Q k.n (at0+j) (part_ b j))→
 ((Dk.add1L at0 b f i k).1=17∧Fell (Dk.add1L at0 b f i k).2 k Q)∨
 ((Dk.add1L at0 b f i k).1=0∧Qt (Dk.add1L at0 b f i k).2∧(Dk.add1L at0 b f i k).2.n=k.n∧(Dk.add1L at0 b f i k).2.st=k.st∧(∀j,i≤j→j<i+f→secOf (Dk.add1L at0 b f i k).2.now (at0+j)=part_ b j)∧
   ∀j,j<at0+i∨at0+i+f≤j→secOf (Dk.add1L at0 b f i k).2.now j=secOf k.now j)
 |0,i,k,h,hn,hc=>by
  rw[Dk.add1L]
  rcases h.sync with g|⟨g1,g2,g3,g4,g5⟩
  ·exact .inl g
  ·exact .inr ⟨g1,g2,g3,g4,fun j h1 h2=>by omega,fun j _=>by rw[g5]⟩
 |f+1,i,k,h,hn,hc=>by
  rw[Dk.add1L]
  rcases h.writeC (i:=at0+i) (b:=part_ b i) (by omega) (part_len b i) (hc i (by omega) (by omega)) with ⟨g1,g2⟩|⟨w1,w2,w3,w4,_,w6,w7⟩
  ·rw[if_pos (by rw[g1];simp)]
   exact .inl ⟨g1,g2⟩
  ·rw[if_neg (by simp[w1])]
   rcases Ph.add1L (at0:=at0) (b:=b) (f:=f) (i:=i+1) w2 (by omega) (fun j h1 h2=>by rw[w3];exact hc j (by omega) (by omega)) with ⟨g1,g2⟩|⟨r1,r2,r3,r4,r5,r6⟩
   ·exact .inl ⟨g1,g2.of w3 w4⟩
   ·refine .inr ⟨r1,r2,r3.trans w3,r4.trans w4,fun j h1 h2=>?_,fun j hj=>?_⟩
    ·by_cases hj:j=i
     ·subst hj
      rw[r6 (at0+j) (by omega),w6]
     ·exact r5 j (by omega) (by omega)
    ·rw[r6 j (by omega),w7 j (by omega)]
theorem add1L_pend{at0:Nat}{b:List Int}:∀{f i:Nat} {k:Dk},(Dk.add1L at0 b f i k).2.pend.length≤k.pend.length+f
 |0,i,k=>by
  rw[Dk.add1L]
  have:k.sync.2.pend.length≤k.pend.length:=by
   unfold Dk.sync
   split
   ·exact Nat.le_refl _
   ·split
    ·exact Dk.fails_pend k
    ·exact Nat.zero_le _
  omega
 |f+1,i,k=>by
  rw[Dk.add1L]
  have:=Dk.write_pend k (at0+i) (part_ b i)
  split
  ·omega
  ·have:=add1L_pend (at0:=at0) (b:=b) (f:=f) (i:=i+1) (k:=(k.write (at0+i) (part_ b i)).2)
   omega
theorem Qt.write1{k:Dk}(h:Qt k){i:Nat}{b:List Int}(hi:i<k.n)(hb:b.length=64){Q:List Int→Prop}(h0:Q k.now)(hq:∀p,Q (tearP k.now i b p)):
 ((k.write i b).1=17∧Fell (k.write i b).2 k Q)∨
 ((k.write i b).1=0∧(((k.write i b).2.sync.1=17∧Fell (k.write i b).2.sync.2 k Q)∨
   ((k.write i b).2.sync.1=0∧Qt (k.write i b).2.sync.2∧(k.write i b).2.sync.2.n=k.n∧(k.write i b).2.sync.2.st=k.st∧secOf (k.write i b).2.sync.2.now i=b∧∀j,j≠i→secOf (k.write i b).2.sync.2.now j=secOf k.now j))):=by
 have hp:=h.ph h0
 have e:∀ps,tearAll ps 0 k.pend k.dur=k.now:=fun ps=>by rw[h.pe];exact h.eq
 rcases hp.write hi hb (fun l p _ ⟨ps,hps⟩=>by rw[hps,e];exact hq p) with g|⟨g1,g2,g3,g4,g5,_,g7,g8⟩
 ·exact .inl g
 ·refine .inr ⟨g1,?_⟩
  rcases g2.sync with ⟨s1,s2⟩|⟨s1,s2,s3,s4,s5⟩
  ·exact .inl ⟨s1,s2.of g3 g4⟩
  ·exact .inr ⟨s1,s2,s3.trans g3,s4.trans g4,by rw[s5];exact g7,fun j hj=>by rw[s5];exact g8 j hj⟩
theorem Ph.clearL{Q:List Int→Prop}{num:Int}:∀{f i:Nat} {wr:Bool} {k:Dk},Ph k Q→k.base num+i+f≤k.n→(∀j,i≤j→j<i+f→Clo Q k.n (k.base num+j) zeros)→(wr=false→Qt k)→
 ((Dk.clearL num f i wr k).1=17∧Fell (Dk.clearL num f i wr k).2 k Q)∨
 ((Dk.clearL num f i wr k).1=0∧Qt (Dk.clearL num f i wr k).2∧(Dk.clearL num f i wr k).2.n=k.n∧(Dk.clearL num f i wr k).2.st=k.st∧(∀j,i≤j→j<i+f→secOf (Dk.clearL num f i wr k).2.now (k.base num+j)=zeros)∧
   ∀j,j<k.base num+i∨k.base num+i+f≤j→secOf (Dk.clearL num f i wr k).2.now j=secOf k.now j)
 |0,i,wr,k,h,hn,hc,hq=>by
  rw[Dk.clearL]
  split
  ·rcases h.sync with g|⟨g1,g2,g3,g4,g5⟩
   ·exact .inl g
   ·exact .inr ⟨g1,g2,g3,g4,fun j h1 h2=>by omega,fun j _=>by rw[g5]⟩
  ·rename_i hw
   exact .inr ⟨rfl,hq (by simpa using hw),rfl,rfl,fun j h1 h2=>by omega,fun j _=>rfl⟩
 |f+1,i,wr,k,h,hn,hc,hq=>by
  have hr:k.readE (k.base num+i:Nat)=0:=by
   unfold Dk.readE
   have:(k.secs:Int)=(k.n:Nat):=rfl
   rw[if_neg (by omega),if_neg (by simp[h.on])]
  rw[Dk.clearL,if_neg (by rw[hr];simp)]
  have hsl:(secOf k.now (k.base num+i)).length=64:=secOf_len (by have:=h.ln;omega)
  split
  ·rcases h.writeC (i:=k.base num+i) (b:=zeros) (by omega) zeros_len (hc i (by omega) (by omega)) with ⟨g1,g2⟩|⟨w1,w2,w3,w4,_,w6,w7⟩
   ·rw[if_pos (by rw[g1];simp)]
    exact .inl ⟨g1,g2⟩
   ·rw[if_neg (by simp[w1])]
    have hb:(k.write (k.base num+i) zeros).2.base num=k.base num:=Dk.base_n w3 num
    rcases Ph.clearL (num:=num) (f:=f) (i:=i+1) (wr:=true) w2 (by rw[hb,w3];omega) (fun j h1 h2=>by rw[w3,hb];exact hc j (by omega) (by omega)) (fun hc=>by cases hc) with ⟨g1,g2⟩|⟨r1,r2,r3,r4,r5,r6⟩
    ·exact .inl ⟨g1,g2.of w3 w4⟩
    ·rw[hb]at r5 r6
     refine .inr ⟨r1,r2,r3.trans w3,r4.trans w4,fun j h1 h2=>?_,fun j hj=>?_⟩
     ·by_cases hj:j=i
      ·subst hj
       rw[r6 _ (by omega),w6]
      ·exact r5 j (by omega) (by omega)
     ·rw[r6 j (by omega),w7 j (by omega)]
  ·rename_i hz
   have hz':secOf k.now (k.base num+i)=zeros:=(any_zeros hsl).resolve_left hz
   rcases Ph.clearL (num:=num) (f:=f) (i:=i+1) (wr:=wr) h (by omega) (fun j h1 h2=>hc j (by omega) (by omega)) hq with ⟨g1,g2⟩|⟨r1,r2,r3,r4,r5,r6⟩
   ·exact .inl ⟨g1,g2⟩
   ·refine .inr ⟨r1,r2,r3,r4,fun j h1 h2=>?_,fun j hj=>r6 j (by omega)⟩
    by_cases hj:j=i
    ·subst hj
     rw[r6 _ (by omega),hz']
    ·exact r5 j (by omega) (by omega)
def On1(k:Dk):Prop:=k.down=false∧k.fuse = -1
theorem On1.fails{k:Dk}(h:On1 k):k.fails=(false,k):=by
 unfold Dk.fails
 have:=h.2
 rw[if_neg (by omega),if_neg (by omega)]
theorem On1.write{k:Dk}(h:On1 k)(i:Nat)(b:List Int):On1 (k.write i b).2:=by
 have hp:On1 (k.put i b):=h
 unfold Dk.write
 rw[if_neg (by simp[h.1]),hp.fails]
 exact hp
theorem On1.sync{k:Dk}(h:On1 k):On1 k.sync.2:=by
 unfold Dk.sync
 rw[if_neg (by simp[h.1]),h.fails,if_neg (by simp)]
 exact h
theorem On1.add1L{at0:Nat}{b:List Int}:∀{f i:Nat} {k:Dk},On1 k→On1 (Dk.add1L at0 b f i k).2
 |0,i,k,h=>h.sync
 |f+1,i,k,h=>by
  rw[Dk.add1L]
  split
  ·exact h.write _ _
  ·exact On1.add1L (h.write _ _)
theorem On1.add{k:Dk}(h:On1 k)(num:Int)(nxt:Nat)(q:Int)(b:List Int):On1 (k.add num nxt q b).2:=by
 have h1:On1 (k.add1 num nxt b).2:=On1.add1L h
 unfold Dk.add
 split
 ·exact h1
 ·split
  ·exact h1.write _ _
  ·exact(h1.write _ _).sync
theorem On1.clearL{num:Int}:∀{f i:Nat} {wr:Bool} {k:Dk},On1 k→On1 (Dk.clearL num f i wr k).2
 |0,i,wr,k,h=>by
  rw[Dk.clearL]
  split
  ·exact h.sync
  ·exact h
 |f+1,i,wr,k,h=>by
  rw[Dk.clearL]
  split
  ·exact h
  ·split
   ·split
    ·exact h.write _ _
    ·exact On1.clearL (h.write _ _)
   ·exact On1.clearL h
theorem On1.clear{k:Dk}(h:On1 k)(num:Int)(i:Nat):On1 (k.clear num i).2:=On1.clearL h
theorem On1.put{k:Dk}(h:On1 k)(st:Sto)(num:Int)(nxt:Nat)(b:Bt):On1 (st.put k num nxt b).k:=by
 unfold Sto.put
 repeat' split
 all_goals first
  |exact h
  |exact h.add _ _ _ _
end Go.Vc
namespace Go.Vc
open Go Go.Proofs
def halfN(n:Nat):Nat:=(n - 2) / 2
def baseN(n:Nat)(num:Int):Nat:=2+(num%2).toNat*halfN n
theorem Dk.half_eqN(k:Dk):k.half=halfN k.n:=rfl
theorem Dk.base_eqN(k:Dk)(num:Int):k.base num=baseN k.n num:=rfl
theorem baseN_le{n:Nat}(hn:2≤n)(num:Int){i:Nat}(hi:i<halfN n):2≤baseN n num∧baseN n num+i<n:=by
 unfold baseN halfN at *
 have:(num%2).toNat≤1:=by omega
 rcases Nat.lt_or_ge (num%2).toNat 1 with h|h
 ·have:(num%2).toNat=0:=by omega
  rw[this];omega
 ·have:(num%2).toNat=1:=by omega
  rw[this];omega
def NoHead(s:List Int):Prop:=s.getD 0 0=0∨s.getD 63 0=0
theorem noHead_zeros:NoHead zeros:=.inl rfl
theorem noHead_tear{s:List Int}(hs:s.length=64)(h:NoHead s)(p:Int):NoHead (tearSP s zeros p):=by
 have z:zeros.length=64:=zeros_len
 have g:∀i,zeros.getD i 0=0:=fun i=>by
  unfold zeros
  rw[List.getD_eq_getElem?_getD,List.getElem?_replicate]
  split<;>rfl
 unfold NoHead at *
 rcases tearSP_cases hs z p with ⟨m,hm,e⟩|⟨m,hm,e⟩
 ·rw[e]
  by_cases h0:m=0
  ·subst h0;simpa using h
  ·left
   rw[List.getD_eq_getElem?_getD,List.getElem?_append_left (by simp[z];omega),List.getElem?_take,if_pos (by omega)]
   have:=g 0
   rwa [List.getD_eq_getElem?_getD]at this
 ·rw[e]
  by_cases h0:m=0
  ·subst h0
   rw[show 64 - 0=64 from rfl,List.take_of_length_le (by omega),List.drop_eq_nil_of_le (by omega),List.append_nil]
   exact h
  ·right
   rw[List.getD_eq_getElem?_getD,List.getElem?_append_right (by simp[hs];omega),List.getElem?_drop,List.length_take,hs]
   have e2:64 - m+(63 - min (64 - m) 64)=63:=by omega
   rw[e2]
   have:=g 63
   rwa [List.getD_eq_getElem?_getD]at this
theorem head_tear(q:Int)(n:Nat)(p:Int):NoHead (tearSP zeros (headOf q n) p)∨tearSP zeros (headOf q n) p=headOf q n:=by
 have z:zeros.length=64:=zeros_len
 have hl:=headOf_len q n
 have g:∀i,i<64→zeros[i]?=some 0:=fun i hi=>by unfold zeros;rw[List.getElem?_replicate,if_pos hi]
 unfold NoHead
 rcases tearSP_cases z hl p with ⟨m,hm,e⟩|⟨m,hm,e⟩
 ·by_cases h0:m=64
  ·right
   rw[e,h0,List.take_of_length_le (by omega),List.drop_eq_nil_of_le (by omega),List.append_nil]
  ·left;right
   rw[e,List.getD_eq_getElem?_getD,List.getElem?_append_right (by simp[hl];omega),List.getElem?_drop,List.length_take,hl]
   have e2:m+(63 - min m 64)=63:=by omega
   rw[e2,g 63 (by omega)]
   rfl
 ·by_cases h0:m=64
  ·right
   rw[e,h0]
   simp
  ·left;left
   rw[e,List.getD_eq_getElem?_getD,List.getElem?_append_left (by simp[z];omega),List.getElem?_take,if_pos (by omega),g 0 (by omega)]
   rfl
def RecL(l:List Int)(base half:Nat):Nat→List (Int×List Int)→Nat→Prop
 |i,[],e=>e=i∧(i<half→NoHead (secOf l (base+i)))
 |i,q::r,e=>RecAt l (base+i) q.1 q.2∧i+secsOf q.2<half∧q.2.length<16777216∧RecL l base half (i+1+secsOf q.2) r e
theorem RecL.end_le{l:List Int}{base half:Nat}:∀{rs:List (Int×List Int)} {i e:Nat},RecL l base half i rs e→i≤e∧(rs≠[]→e≤half)
 |[],_,_,h=>by rw[h.1];exact⟨Nat.le_refl _,fun hc=>absurd rfl hc⟩
 |q::r,i,e,h=>by
  have h1:=h.2.2.2.end_le
  have h2:=h.2.1
  refine⟨by omega,fun _=>?_⟩
  cases r with
  |nil=>have:=h.2.2.2.1;omega
  |cons p r=>exact h1.2 (by simp)
theorem RecL.other{l l':List Int}{base half:Nat}:∀{rs:List (Int×List Int)} {i e:Nat},RecL l base half i rs e→(∀j,i≤j→j<e→secOf l' (base+j)=secOf l (base+j))→(e<half→NoHead (secOf l' (base+e)))→RecL l' base half i rs e
 |[],i,e,h,_,hh=>⟨h.1,fun hi=>by have:=h.1;subst this;exact hh hi⟩
 |p::r,i,e,h,ho,hh=>by
  obtain⟨h1,h2,h3,h4⟩:=h
  have hle:=h4.end_le.1
  refine⟨⟨?_,fun j hj=>?_⟩,h2,h3,h4.other (fun j g1 g2=>ho j (by omega) g2) hh⟩
  ·rw[ho i (Nat.le_refl _) (by omega)];exact h1.1
  ·rw[show base+i+1+j=base+(i+1+j) from by omega,ho (i+1+j) (by omega) (by omega),show base+(i+1+j)=base+i+1+j from by omega]
   exact h1.2 j hj
theorem RecL.head{l:List Int}{base half:Nat}:∀{rs:List (Int×List Int)} {i e:Nat},RecL l base half i rs e→e<half→NoHead (secOf l (base+e))
 |[],i,e,h,he=>by have:=h.1;subst this;exact h.2 he
 |p::r,i,e,h,he=>h.2.2.2.head he
theorem RecL.snoc{l l':List Int}{base half:Nat}{q:Int×List Int}:∀{rs:List (Int×List Int)} {i e:Nat},RecL l base half i rs e→RecAt l' (base+e) q.1 q.2→e+secsOf q.2<half→q.2.length<16777216→(∀j,i≤j→j<e→secOf l' (base+j)=secOf l (base+j))→
 (e+1+secsOf q.2<half→NoHead (secOf l' (base+(e+1+secsOf q.2))))→RecL l' base half i (rs++[q]) (e+1+secsOf q.2)
 |[],i,e,h,hr,hf,hb,_,hh=>by
  have:=h.1
  subst this
  exact⟨hr,hf,hb,rfl,hh⟩
 |p::r,i,e,h,hr,hf,hb,ho,hh=>by
  obtain⟨h1,h2,h3,h4⟩:=h
  have hle:=h4.end_le.1
  refine⟨⟨?_,fun j hj=>?_⟩,h2,h3,h4.snoc hr hf hb (fun j g1 g2=>ho j (by omega) g2) hh⟩
  ·rw[ho i (Nat.le_refl _) (by omega)];exact h1.1
  ·rw[show base+i+1+j=base+(i+1+j) from by omega,ho (i+1+j) (by omega) (by omega),show base+(i+1+j)=base+i+1+j from by omega]
   exact h1.2 j hj
theorem readRec_no{k:Dk}(h:k.down=false){num:Int}(hn:2≤k.n){i:Nat}(hr:i<k.half→NoHead (secOf k.now (k.base num+i))):(k.readRec num i).1=0∧(k.readRec num i).2.2.2=0:=by
 unfold Dk.readRec
 by_cases hi:k.half≤i
 ·rw[if_pos hi];exact⟨rfl,rfl⟩
 ·have hle:=(baseN_le (n:=k.n) hn num (i:=i) (by rw[←Dk.half_eqN];omega)).2
  rw[←Dk.base_eqN]at hle
  have e0:k.readE (k.base num+i:Nat)=0:=by
   unfold Dk.readE
   have:(k.secs:Int)=(k.n:Nat):=rfl
   rw[if_neg (by omega),if_neg (by simp[h])]
  rw[if_neg hi,if_neg (by rw[e0];simp)]
  have hh:=hr (by omega)
  split
  ·exact⟨rfl,rfl⟩
  ·rename_i heq
   have heq':=Classical.not_not.1 heq
   split
   ·exact⟨rfl,rfl⟩
   ·refine⟨?_,rfl⟩
    show(secOf k.now (k.base num+i)).getD 0 0=0
    rcases hh with h0|h63
    ·exact h0
    ·rw[heq',h63]
theorem RecL.recs{k:Dk}(h:k.down=false){num:Int}(hnum:0≤num)(hn:2≤k.n):∀{rs:List (Int×List Int)} {i e:Nat},RecL k.now (k.base num) k.half i rs e→Recs k num i rs e
 |[],i,e,hl=>by
  obtain⟨rfl,hz⟩:=hl
  have:=readRec_no h hn hz
  exact⟨rfl,this.1,this.2⟩
 |q::r,i,e,hl=>by
  obtain⟨h1,h2,h3,h4⟩:=hl
  exact⟨_,readRec_at h hnum hn h1 h2 h3,by omega,by omega,RecL.recs h hnum hn h4⟩
def nb(num:Int):List Int:=[nbyte num 0,nbyte num 1,nbyte num 2,nbyte num 3,nbyte num 4,nbyte num 5,nbyte num 6,nbyte num 7]
theorem nb_num{num:Int}(h0:0≤num)(h1:num<1000000000):numB (nb num)=num:=numB_note h0 h1
theorem nb_7{num:Int}:nbyte (num - 2) 7≠nbyte num 7:=by
 unfold nbyte
 simp only[Nat.reduceSub,Nat.reduceMul,Nat.reducePow]
 omega
structure NoteX (s:List Int) (N:Int):Prop where
 len:s.length=64
 x:(s.drop 56=nb (N - 2)∧s.getD 7 0=nbyte (N - 2) 7)∨s.take 8=nb N∨(s.getD 63 0=nbyte N 7∧s.getD 7 0=nbyte (N - 2) 7)∨(s.drop 56=nb N∧s.getD 7 0=nbyte N 7)
def NoteV(s:List Int)(N:Int):Prop:=s.take 8=nb N∧s.drop 56=nb N
theorem noteV_of{num:Int}:NoteV (noteOf num) num:=⟨rfl,rfl⟩
theorem getD_eq{l:List Int}{i:Nat}:l.getD i 0=(l[i]?).getD 0:=List.getD_eq_getElem?_getD ..
theorem NoteX.valid{s:List Int}{N:Int}(h:NoteX s N)(hv:s.take 8=s.drop 56):s.take 8=nb (N - 2)∨NoteV s N:=by
 have hs:=h.len
 have a7:s.getD 7 0=(s.take 8).getD 7 0:=by rw[getD_eq,getD_eq,List.getElem?_take,if_pos (by omega)]
 have b7:s.getD 63 0=(s.drop 56).getD 7 0:=by rw[getD_eq,getD_eq,List.getElem?_drop]
 rcases h.x with ⟨h1,h2⟩|h1|⟨h1,h2⟩|⟨h1,h2⟩
 ·exact .inl (by rw[hv];exact h1)
 ·exact .inr ⟨h1,by rw[←hv];exact h1⟩
 ·rw[b7,←hv,←a7,h2]at h1
  exact absurd h1 nb_7
 ·exact .inr ⟨by rw[hv];exact h1,h1⟩
structure NoteR (l:List Int) (num:Int):Prop where
 v:NoteV (secOf l (num%2).toNat) num
 x:NoteX (secOf l (1 - (num%2).toNat)) (num+1)
 nv:¬NoteV (secOf l (1 - (num%2).toNat)) (num+1)
theorem NoteR.newest{k:Dk}{num:Int}(h0:0<num)(h1:num<1000000)(h:NoteR k.now num):k.newest=num:=by
 obtain⟨⟨ha1,ha2⟩,hx,hn⟩:=h
 have hA:(secOf k.now (num%2).toNat).take 8=(secOf k.now (num%2).toNat).drop 56∧numB ((secOf k.now (num%2).toNat).take 8)=num:=by
  rw[ha1,ha2];exact⟨rfl,nb_num (by omega) (by omega)⟩
 have hB:(secOf k.now (1 - (num%2).toNat)).take 8=(secOf k.now (1 - (num%2).toNat)).drop 56→numB ((secOf k.now (1 - (num%2).toNat)).take 8)<num:=fun hv=>by
  rcases hx.valid hv with h2|h2
  ·rw[h2,nb_num (by omega) (by omega)];omega
  ·exact absurd h2 hn
 unfold Dk.newest Dk.noted
 rcases (by omega:num%2=0∨num%2=1) with hp|hp
 ·rw[hp]at hA hB
  simp only[Int.toNat_zero,Nat.sub_zero]at hA hB
  have hin:(if (secOf k.now 0).take 8=(secOf k.now 0).drop 56∧0<numB ((secOf k.now 0).take 8)∧numB ((secOf k.now 0).take 8)%2=(0:Nat) then numB ((secOf k.now 0).take 8) else 0)=num:=by
   rw[if_pos ⟨hA.1,by rw[hA.2];omega,by rw[hA.2];omega⟩,hA.2]
  rw[hin,if_neg (fun hc=>by have:=hB hc.1;omega)]
 ·rw[hp]at hA hB
  have e1:(1:Int).toNat=1:=rfl
  rw[e1]at hA hB
  rw[Nat.sub_self]at hB
  have hc:(if (secOf k.now 0).take 8=(secOf k.now 0).drop 56∧0<numB ((secOf k.now 0).take 8)∧numB ((secOf k.now 0).take 8)%2=(0:Nat) then numB ((secOf k.now 0).take 8) else 0)<num:=by
   split
   ·rename_i h;exact hB h.1
   ·omega
  rw[if_pos ⟨hA.1,by rw[hA.2];exact hc,by rw[hA.2];omega⟩,hA.2]
end Go.Vc
namespace Go.Vc
open Go Go.Proofs
structure RecD (l:List Int) (n:Nat) (num:Int) (nxt:Nat) (arrays:List Nm) (bs:List Seen) (ps:List (Pl×Sta)) (bt:List Bt):Prop where
 note:NoteR l num
 log:RecL l (baseN n num) (halfN n) 0 ((1,encBase arrays bs ps)::bt.map fun b=>(2,encB arrays b)) nxt
structure DkR (k:Dk) (num:Int) (nxt:Nat) (arrays:List Nm) (bs:List Seen) (ps:List (Pl×Sta)) (bt:List Bt):Prop where
 qt:Qt k
 n2:10≤k.n
 num0:0<num
 num1:num<1000000
 rd:RecD k.now k.n num nxt arrays bs ps bt
structure DkQ (k:Dk) (num:Int) (nxt:Nat) (arrays:List Nm) (bs:List Seen) (ps:List (Pl×Sta)) (bt:List Bt):Prop where
 r:DkR k num nxt arrays bs ps bt
 z:∀j,nxt≤j→j<halfN k.n→secOf k.now (baseN k.n num+j)=zeros
section
variable {l l':List Int} {n:Nat} {num:Int} {nxt:Nat} {arrays:List Nm} {bs:List Seen} {ps:List (Pl×Sta)} {bt:List Bt}
theorem NoteR.other(h:NoteR l num)(ho:∀j,j<2→secOf l' j=secOf l j):NoteR l' num:=by
 have h2:(num%2).toNat<2:=by omega
 have h3:1 - (num%2).toNat<2:=by omega
 exact⟨by rw[ho _ h2];exact h.v,by rw[ho _ h3];exact h.x,by rw[ho _ h3];exact h.nv⟩
theorem RecD.other(h:RecD l n num nxt arrays bs ps bt)(ho:∀j,j<2→secOf l' j=secOf l j)(hr:∀j,j<nxt→secOf l' (baseN n num+j)=secOf l (baseN n num+j))(hh:nxt<halfN n→NoHead (secOf l' (baseN n num+nxt))):RecD l' n num nxt arrays bs ps bt :=
 ⟨h.note.other ho,h.log.other (fun j _ hj=>hr j hj) hh⟩
theorem RecD.nx(h:RecD l n num nxt arrays bs ps bt):nxt≤halfN n:=(h.log.end_le).2 (by simp)
theorem RecD.clo(hn:2≤n){i:Nat}{b:List Int}(hi:i<n)(hb:b.length=64)(h2:2≤i)(hj:∀j,j≤nxt→j<halfN n→i≠baseN n num+j):Clo (fun l=>RecD l n num nxt arrays bs ps bt) n i b:=by
 intro l p hl h
 obtain⟨t1,t2,t3⟩:=tearP_sec (l:=l) (i:=i) (p:=p) (by omega) hb
 have hx:=h.nx
 refine h.other (fun j hj2=>t2 j (by omega)) (fun j hjn=>t2 _ fun e=>hj j (by omega) (by omega) e.symm) fun hlt=>?_
 rw[t2 _ fun e=>hj nxt (Nat.le_refl _) hlt e.symm]
 exact h.log.head hlt
theorem RecD.cloZ(hn:2≤n){j:Nat}(hj:nxt≤j)(hjh:j<halfN n):Clo (fun l=>RecD l n num nxt arrays bs ps bt) n (baseN n num+j) zeros:=by
 have hb:=baseN_le hn num hjh
 intro l p hl h
 by_cases he:j=nxt
 ·subst he
  obtain⟨t1,t2,t3⟩:=tearP_sec (l:=l) (i:=baseN n num+j) (b:=zeros) (p:=p) (by omega) zeros_len
  refine h.other (fun i hi=>t2 i (by omega)) (fun i hi=>t2 _ (by omega)) fun hlt=>?_
  rw[t1]
  exact noHead_tear (secOf_len (by omega)) (h.log.head hlt) p
 ·exact RecD.clo hn (by omega) zeros_len (by omega) (fun i hi _=>by omega) l p hl h
end
theorem Qt.addC{k:Dk}(h:Qt k)(hn:2≤k.n)(hN:k.n≤2048){num:Int}{nxt:Nat}{q:Int}{b:List Int}(hfit:nxt+secsOf b<halfN k.n){Q0 Q:List Int→Prop}(hm:∀l,Q0 l→Q l)(h0:Q0 k.now)(hc:∀j x,nxt<j→j<halfN k.n→x.length=64→Clo Q0 k.n (baseN k.n num+j) x)
 (hd:∀k1:Dk,Qt k1→k1.n=k.n→(∀j,j<secsOf b→secOf k1.now (baseN k.n num+nxt+1+j)=part_ b j)→(∀j,j<baseN k.n num+nxt+1∨baseN k.n num+nxt+1+secsOf b≤j→secOf k1.now j=secOf k.now j)→Q k1.now∧∀p,Q (tearP k1.now (baseN k.n num+nxt) (headOf q b.length) p)):
 AddOk k num nxt q b∧(((k.add num nxt q b).1=17∧Fell (k.add num nxt q b).2 k Q)∨
  ((k.add num nxt q b).1=0∧Qt (k.add num nxt q b).2∧(k.add num nxt q b).2.n=k.n∧(k.add num nxt q b).2.st=k.st∧secOf (k.add num nxt q b).2.now (baseN k.n num+nxt)=headOf q b.length∧(∀j,j<secsOf b→secOf (k.add num nxt q b).2.now (baseN k.n num+nxt+1+j)=part_ b j)∧
    ∀j,j<baseN k.n num+nxt∨baseN k.n num+nxt+1+secsOf b≤j→secOf (k.add num nxt q b).2.now j=secOf k.now j)):=by
 have hle:=baseN_le hn num (i:=nxt+secsOf b) hfit
 have hle0:=baseN_le hn num (i:=nxt) (by omega)
 have ha:k.add1 num nxt b=Dk.add1L (baseN k.n num+nxt+1) b (secsOf b) 0 k:=rfl
 have hbase:k.base num=baseN k.n num:=rfl
 have hhn:halfN k.n≤k.n:=by unfold halfN;omega
 refine⟨?_,?_⟩
 ·have hp:=add1L_pend (at0:=baseN k.n num+nxt+1) (b:=b) (f:=secsOf b) (i:=0) (k:=k)
  have hw:=Dk.write_pend (k.add1 num nxt b).2 (k.base num+nxt) (headOf q b.length)
  rw[h.pe,List.length_nil]at hp
  rw[ha]at hw
  exact⟨hn,hfit,by rw[h.pe];simp,by rw[ha];omega,by rw[ha];omega⟩
 ·have hpart:∀j,0≤j→j<0+secsOf b→Clo Q0 k.n (baseN k.n num+nxt+1+j) (part_ b j):=fun j h1 h2=>by
   have:=hc (nxt+1+j) (part_ b j) (by omega) (by omega) (part_len b j)
   rwa [show baseN k.n num+(nxt+1+j)=baseN k.n num+nxt+1+j from by omega]at this
  unfold Dk.add
  rw[ha,hbase]
  rcases Ph.add1L (Q:=Q0) (at0:=baseN k.n num+nxt+1) (b:=b) (f:=secsOf b) (i:=0) (h.ph h0) (by omega) hpart with ⟨g1,g2⟩|⟨a1,a2,a3,a4,a5,a6⟩
  ·left
   rw[if_pos (by rw[g1];simp)]
   exact⟨g1,g2.mono fun l _ hq=>hm l hq⟩
  ·rw[if_neg (by simp[a1])]
   obtain⟨d1,d2⟩:=hd _ a2 a3 (fun j hj=>a5 j (by omega) (by omega)) (fun j hj=>a6 j (by omega))
   rcases a2.write1 (i:=baseN k.n num+nxt) (b:=headOf q b.length) (by rw[a3];omega) (headOf_len q b.length) d1 d2 with ⟨g1,g2⟩|⟨g1,⟨s1,s2⟩|⟨s1,s2,s3,s4,s5,s6⟩⟩
   ·left
    rw[if_pos (by rw[g1];simp)]
    exact⟨g1,g2.of a3 a4⟩
   ·left
    rw[if_neg (by simp[g1])]
    exact⟨s1,s2.of a3 a4⟩
   ·right
    rw[if_neg (by simp[g1])]
    exact⟨s1,s2,s3.trans a3,s4.trans a4,s5,fun j hj=>by rw[s6 _ (by omega)];exact a5 j (by omega) (by omega),fun j hj=>by rw[s6 _ (by omega)];exact a6 j (by omega)⟩
section
variable {k:Dk} {num:Int} {nxt:Nat} {arrays:List Nm} {bs:List Seen} {ps:List (Pl×Sta)} {bt:List Bt}
theorem DkQ.add(h:DkQ k num nxt arrays bs ps bt)(hN:k.n≤2048){b:Bt}(hfit:nxt+secsOf (encB arrays b)<halfN k.n)(hl:(encB arrays b).length<16777216):
 AddOk k num nxt 2 (encB arrays b)∧(((k.add num nxt 2 (encB arrays b)).1=17∧Fell (k.add num nxt 2 (encB arrays b)).2 k (fun l=>RecD l k.n num nxt arrays bs ps bt∨RecD l k.n num (nxt+1+secsOf (encB arrays b)) arrays bs ps (bt++[b])))∨
  ((k.add num nxt 2 (encB arrays b)).1=0∧DkQ (k.add num nxt 2 (encB arrays b)).2 num (nxt+1+secsOf (encB arrays b)) arrays bs ps (bt++[b])∧(k.add num nxt 2 (encB arrays b)).2.n=k.n∧(k.add num nxt 2 (encB arrays b)).2.st=k.st)):=by
 have hn2:=h.r.n2
 generalize hB:encB arrays b=B at *
 have hle:=baseN_le (n:=k.n) (by omega) num (i:=nxt+secsOf B) hfit
 have hnx:nxt<halfN k.n:=by omega
 have hr:=h.r.rd
 have whole:∀l:List Int,secOf l (baseN k.n num+nxt)=headOf 2 B.length→(∀j,j<secsOf B→secOf l (baseN k.n num+nxt+1+j)=part_ B j)→(∀j,j<baseN k.n num+nxt∨baseN k.n num+nxt+1+secsOf B≤j→secOf l j=secOf k.now j)→
  RecD l k.n num (nxt+1+secsOf B) arrays bs ps (bt++[b]):=fun l e1 e2 e3=>by
  refine⟨hr.note.other fun j hj=>e3 j (.inl (by omega)),?_⟩
  have:=hr.log.snoc (q:=(2,B)) (l':=l) ⟨e1,e2⟩ hfit hl (fun j _ hj=>e3 _ (.inl (by omega))) fun hlt=>by
   dsimp only at hlt ⊢
   rw[show baseN k.n num+(nxt+1+secsOf B)=baseN k.n num+nxt+1+secsOf B from by omega,e3 _ (.inr (Nat.le_refl _))]
   rw[show baseN k.n num+nxt+1+secsOf B=baseN k.n num+(nxt+1+secsOf B) from by omega,h.z _ (by omega) hlt]
   exact noHead_zeros
  rw[List.map_append]
  rw[←hB]at this ⊢
  exact this
 obtain⟨ao,hres⟩:=h.r.qt.addC (by omega) hN (num:=num) (nxt:=nxt) (q:=2) (b:=B) hfit (Q0:=fun l=>RecD l k.n num nxt arrays bs ps bt) (Q:=fun l=>RecD l k.n num nxt arrays bs ps bt∨RecD l k.n num (nxt+1+secsOf B) arrays bs ps (bt++[b])) (fun l hq=>.inl hq) hr
  (fun j x hj hjh hx=>by
    have hbj:=baseN_le (n:=k.n) (by omega) num (i:=j) hjh
    exact RecD.clo (by omega) hbj.2 hx (by omega) fun i hi _=>by omega)
  (fun k1 q1 n1 e1 e2=>by
    have hz:secOf k1.now (baseN k.n num+nxt)=zeros:=by rw[e2 _ (.inl (by omega))];exact h.z nxt (Nat.le_refl _) hnx
    have hr1:RecD k1.now k.n num nxt arrays bs ps bt:=hr.other (fun j hj=>e2 j (.inl (by omega))) (fun j hj=>e2 _ (.inl (by omega))) fun _=>by rw[hz];exact noHead_zeros
    refine⟨.inl hr1,fun p=>?_⟩
    have hlen:=q1.len
    obtain⟨t1,t2,t3⟩:=tearP_sec (l:=k1.now) (i:=baseN k.n num+nxt) (b:=headOf 2 B.length) (p:=p) (by omega) (headOf_len 2 B.length)
    rw[hz]at t1
    rcases head_tear 2 B.length p with hh|hh
    ·exact .inl (hr1.other (fun j hj=>t2 j (by omega)) (fun j hj=>t2 _ (by omega)) fun _=>by rw[t1];exact hh)
    ·exact .inr (whole _ (by rw[t1];exact hh) (fun j hj=>by rw[t2 _ (by omega)];exact e1 j hj) (fun j hj=>by rw[t2 j (by omega)];exact e2 j (by omega))))
 refine⟨ao,?_⟩
 rcases hres with g|⟨a1,a2,a3,a4,a5,a6,a7⟩
 ·exact .inl g
 ·exact .inr ⟨a1,⟨⟨a2,by rw[a3];exact hn2,h.r.num0,h.r.num1,by rw[a3];exact whole _ a5 a6 a7⟩,fun j h1 h2=>by rw[a3]at h2 ⊢;rw[a7 _ (.inr (by omega))];exact h.z j (by omega) h2⟩,a3,a4⟩
theorem DkR.opened(h:DkR k num nxt arrays bs ps bt):
 k.newest=num∧Recs k num 0 ((1,encBase arrays bs ps)::bt.map fun b=>(2,encB arrays b)) nxt∧
 (((k.clear num nxt).1=17∧Fell (k.clear num nxt).2 k (fun l=>RecD l k.n num nxt arrays bs ps bt))∨
   ((k.clear num nxt).1=0∧(k.clear num nxt).2.n=k.n∧(k.clear num nxt).2.st=k.st∧∀i,DkQ { (k.clear num nxt).2 with st:=i } num nxt arrays bs ps bt)):=by
 have hn2:=h.n2
 have hr:=h.rd
 have hnx:=hr.nx
 have hb2:2≤baseN k.n num:=by unfold baseN;omega
 have hbl:baseN k.n num+halfN k.n≤k.n:=by
  have hh:1≤halfN k.n:=by unfold halfN;omega
  have:=baseN_le (n:=k.n) (by omega) num (i:=halfN k.n - 1) (by omega);omega
 refine⟨hr.note.newest h.num0 h.num1,hr.log.recs h.qt.on (by have:=h.num0;omega) (by omega),?_⟩
 have hK1:(k.clear num nxt)=Dk.clearL num (k.half - nxt) nxt false k:=rfl
 rcases Ph.clearL (num:=num) (f:=k.half - nxt) (i:=nxt) (wr:=false) (h.qt.ph hr) (by rw[Dk.base_eqN,Dk.half_eqN];omega) (fun j h1 h2=>RecD.cloZ (by omega) h1 (by rw[Dk.half_eqN]at h2;omega)) (fun _=>h.qt) with g|⟨c1,c2,c3,c4,c5,c6⟩
 ·exact .inl g
 right
 rw[←hK1]at c1 c2 c3 c4 c5 c6
 rw[Dk.base_eqN,Dk.half_eqN]at c5 c6
 have hz:∀j,nxt≤j→j<halfN k.n→secOf (k.clear num nxt).2.now (baseN k.n num+j)=zeros:=fun j h1 h2=>c5 j h1 (by omega)
 refine⟨c1,c3,c4,fun i=>⟨⟨⟨c2.on,c2.pe,c2.eq,c2.len⟩,by dsimp only;rw[c3];exact hn2,h.num0,h.num1,?_⟩,fun j h1 h2=>?_⟩⟩
 ·dsimp only
  rw[c3]
  exact hr.other (fun j hj=>c6 j (.inl (by omega))) (fun j hj=>c6 _ (.inl (by omega))) fun hlt=>by rw[hz nxt (Nat.le_refl _) hlt];exact noHead_zeros
 ·dsimp only at h2 ⊢
  rw[c3]at h2 ⊢
  exact hz j h1 h2
theorem LogL.recL{l:List Int}{base half:Nat}:∀{rs:List (Int×List Int)} {i e:Nat},LogL l base half i rs e→RecL l base half i rs e
 |[],i,e,h=>⟨h.1,fun hi=>by rw[h.2 i (Nat.le_refl _) hi];exact noHead_zeros⟩
 |q::r,i,e,h=>⟨h.1,h.2.1,h.2.2.1,h.2.2.2.recL⟩
theorem LogL.zeros{l:List Int}{base half:Nat}:∀{rs:List (Int×List Int)} {i e:Nat},LogL l base half i rs e→∀j,e≤j→j<half→secOf l (base+j)=Go.Vc.zeros
 |[],i,e,h,j,h1,h2=>by have:=h.1;subst this;exact h.2 j h1 h2
 |q::r,i,e,h,j,h1,h2=>h.2.2.2.zeros j h1 h2
theorem DkS.q(h:DkS k num nxt arrays bs ps bt)(he:k.dur=k.now)(ho:secOf k.now (1 - (num%2).toNat)=zeros)(h1:num=1):DkQ k num nxt arrays bs ps bt:=by
 subst h1
 refine⟨⟨⟨h.cl.on,h.pend,he,h.cl.len⟩,h.n2,by omega,by omega,⟨⟨?_,?_,?_⟩,h.log.recL⟩⟩,h.log.zeros⟩
 ·rw[h.note.1];exact noteV_of
 ·rw[ho]
  exact⟨zeros_len,.inl ⟨by decide,by decide⟩⟩
 ·rw[ho]
  intro hc
  have:(zeros.take 8).getD 7 0=(nb (1+1)).getD 7 0:=by rw[hc.1]
  revert this
  decide
end
end Go.Vc
namespace Go.Vc
open Go Go.Proofs
def SysL(M:List Nat)(w:World)(s d n:Nat)(c:Int)(st:Sto)(G:List Nat):Prop :=
 ∃l num nxt k F Fd,SysAt M w s l d num nxt st k F Fd∧Lv k num nxt st∧k.n=n∧num≤c∧k.st≤c∧G=F++Fd
section
variable {M G:List Nat} {w:World} {s d n:Nat} {c:Int} {st:Sto} (h:SysL M w s d n c st G)
include h
theorem SysL.kp0{w':World}(kp:KpL [] w w'):SysL M w' s d n c st G:=by
 obtain⟨l,num,nxt,k,F,Fd,hS,hL,hn,hc,hk,rfl⟩:=h
 exact⟨l,num,nxt,k,F,Fd,hS.kp0 kp,hL,hn,hc,hk,rfl⟩
theorem SysL.own_lt:∀b∈G,b<w.heap.size∧b∉M:=by
 obtain⟨l,num,nxt,k,F,Fd,hS,hL,hn',hc,hk,rfl⟩:=h
 exact hS.own_lt
theorem SysL.put{Mc:List Nat}{b:Bt}{ca:Option Addr}{cn cc:Nat}(hc:R (tSl tCell) (G++Mc) w b.changes [.slice ca cn cc]):
 Calls Tryz.prog 13 #[.pointer (some ⟨s,0,none⟩),.agg #[.string b.token,.int .i64 b.stamp,.string b.array,.slice ca cn cc]] w fun e w'=>e=.returned (.tuple #[.bool (st.putS ((n - 2) / 2) b).1,.int .i64 (st.putS ((n - 2) / 2) b).2.1])∧
  ∃G',SysL M w' s d n c (st.putS ((n - 2) / 2) b).2.2 G'∧Own G w G' w':=by
 obtain⟨l,num,nxt,k,F,Fd,hS,hL,rfl,hc1,hk,rfl⟩:=h
 obtain⟨p1,p2,p3,p4,p5,p6,p7⟩:=hL.put b
 have hn10:=hL.n10
 obtain⟨bs,ps,bt,hD,_⟩:=hL.disk
 refine(sPut_ok hS hc hL.stoB (by omega) (by have:=hD.num0;omega) p7).mono ?_
 rintro e w' ⟨rfl,F',Fd',h',hO⟩
 have eh:k.half=(k.n - 2) / 2:=rfl
 rw[←eh]
 rw[p3]at h'
 exact⟨by rw[p1,p2],F'++Fd',⟨l,num,_,_,F',Fd',h',p4,p5,hc1,by rw[p6];exact hk,rfl⟩,hO⟩
theorem SysL.cmp(hcl:c<900000):Calls Tryz.prog 14 #[.pointer (some ⟨s,0,none⟩)] w fun e w'=>e=.returned (.int .i64 0)∧
 ∃G',SysL M w' s d n (c+1) { st with use:=st.low } G'∧Own G w G' w':=by
 obtain⟨l,num,nxt,k,F,Fd,hS,hL,rfl,hc1,hk,rfl⟩:=h
 have hn10:=hL.n10
 obtain⟨bs,ps,bt,hD,_⟩:=hL.disk
 have hnum:=hD.num0
 refine(sCompact_ok hS hL.v (by omega) (by omega) (by omega) (by rw[hD.pend];simp) (fun ps' hp _=>(hL.cmp (by omega) hp).2.2.2.2.2.2.1) (fun ps' hp _ _=>(hL.cmp (by omega) hp).2.2.2.2.2.2.2)).mono ?_
 rintro e w' ⟨ps',hp,rfl,l',F',Fd',h',hO⟩
 obtain⟨p1,p2,p3,p4,p5,p6,_,_⟩:=hL.cmp (by omega) hp
 rw[p2,p3]at h'
 exact⟨by rw[p1],F'++Fd',⟨l',num+1,_,_,F',Fd',h',p4,p5,by omega,by rw[p6];omega,rfl⟩,hO⟩
theorem SysL.db{N:List Nat}(hN:∀b∈N,b<w.heap.size):Calls Tryz.prog 16 #[.pointer (some ⟨s,0,none⟩)] w fun e w'=>KpL [] w w'∧
 ∃out a m q,e=.returned (.tuple #[.slice a m q,.int .i64 0])∧out.length=st.arrays.length∧DbRel st.arrays st.places out∧R (tSl tNm) N w' out [.slice a m q]:=by
 obtain⟨l,num,nxt,k,F,Fd,hS,hL,rfl,hc1,hk,rfl⟩:=h
 refine(sDB_ok hS.sto hS.dk hL.v hN).mono ?_
 rintro e w' ⟨h1,h2⟩
 rw[if_neg (by simp[hL.ready])]at h2
 exact⟨h1,h2⟩
theorem SysL.room:Calls Tryz.prog 29 #[.pointer (some ⟨s,0,none⟩)] w (PureR (.tuple #[.int .i64 (((n - 2) / 2:Nat) - st.use),.int .i64 0]) w):=by
 obtain⟨l,num,nxt,k,F,Fd,hS,hL,rfl,hc1,hk,rfl⟩:=h
 have hn10:=hL.n10
 have:=room_ok hS.sto hS.dk (by omega) ⟨hL.v.u0,by have:=hL.v.u1;omega⟩
 rw[hL.ready,if_neg (by simp)]at this
 exact this
end
theorem fmtPl_len{m:Nat}:∀{l:List Nm} {i:Nat},(∀x∈l,x.arr.cells.length≤m)→(fmtPl i l).length≤m*l.length
 |[],i,_=>by simp[fmtPl]
 |x::r,i,h=>by
  have h1:=h x (by simp)
  have h2:=fmtPl_len (l:=r) (i:=i+1) fun y hy=>h y (by simp[hy])
  have e:(fmtPl i (x::r)).length=x.arr.cells.length+(fmtPl (i+1) r).length:=by
   rw[fmtPl,List.length_append]
   simp[fmtCs]
  rw[e,List.length_cons,Nat.mul_add]
  omega
theorem fmtL{M Mdb Fd:List Nat}{w:World}{d n:Nat}{db:List Nm}{dba:Option Addr}{dbn dbc:Nat}(h:DkAt M w d (newDk n) Fd)(h1:64≤n)(h2:n≤1024)(hd:R (tSl tNm) Mdb w db [.slice dba dbn dbc])(hp:(fmtPl 0 db).length≤4000):
 Calls Tryz.prog 20 #[.pointer (some ⟨d,0,none⟩),.slice dba dbn dbc] w fun e w' =>
  if dbE db≠0∨db.length=0 then e=.returned (.tuple #[.pointer none,.int .i64 2])∧KpL [] w w'
  else if (((n - 2) / 2:Nat):Int)<(fmtSto db).use then e=.returned (.tuple #[.pointer none,.int .i64 18])∧KpL [] w w'
  else ∃s G i,e=.returned (.tuple #[.pointer (some ⟨s,0,none⟩),.int .i64 0])∧SysL M w' s d n 1 { fmtSto db with id:=i } G∧Own Fd w G w':=by
 have hcl:Cl (newDk n):=⟨rfl,rfl,by simp[newDk]⟩
 have en:(newDk n).n=n:=rfl
 have es:(newDk n).st=0:=rfl
 have eh:(newDk n).half=(n - 2) / 2:=rfl
 refine(sFormat_ok h hd hp (by simp[newDk]) (by omega) fun g1 g2 g3 g4 ps' hps=>?_).mono ?_
 ·obtain⟨f1,f2,f3,f4,f5,f6⟩:=Lv.fmt hcl (by omega) h2 (by omega) g1 g2 g4 hps
  exact⟨fun _=>f4,fun _ _=>by rw[f5];simp,by rw[f2,es];exact ini_i64.2 (by omega)⟩
 ·intro e w' hh
  split at hh
  ·rename_i hz
   rw[if_pos hz];exact hh
  rename_i hz
  rw[if_neg hz]
  rw[if_neg (by simp[newDk])]at hh
  rw[eh]at hh
  split at hh
  ·rename_i hz2
   rw[if_pos hz2];exact hh
  rename_i hz2
  rw[if_neg hz2]
  obtain⟨ps',hps,hh⟩:=hh
  obtain⟨f1,f2,f3,f4,f5,f6⟩:=Lv.fmt hcl (by omega) h2 (by omega) (by omega) (fun hc=>hz (.inr hc)) (by rw[eh];omega) hps
  rw[if_neg (by simp[f1])]at hh
  obtain⟨s,l,F,Fd',rfl,h',hO⟩:=hh
  exact⟨s,F++Fd',_,rfl,⟨l,1,_,_,F,Fd',h',f6 _ (by rw[f2]),f3,Int.le_refl _,by dsimp only;rw[f2,es];omega,rfl⟩,hO⟩
end Go.Vc
namespace Go.Vc
open Go Go.Proofs
theorem bl_eq:∀x y:List UInt8,Op.bytesLess x y=decide (x<y)
 |x,[]=>by cases x<;>simp[Op.bytesLess]
 |[],b::y=>by simp[Op.bytesLess]
 |a::x,b::y=>by
  rw[Op.bytesLess,bl_eq x y]
  by_cases h1:a<b<;>by_cases h2:a=b<;>by_cases h3:x<y<;>simp[List.cons_lt_cons_iff,h1,h2,h3]
theorem ba_ext{a b:ByteArray}(h:a.data.toList=b.data.toList):a=b:=by
 cases a;cases b
 simp only[Array.toList_inj]at h
 simp[h]
theorem tokGt_iff(a b:ByteArray):tokGt a b=true↔b.data.toList<a.data.toList:=by
 unfold tokGt
 rw[bl_eq,ByteArray.toList_eq,ByteArray.toList_eq]
 constructor
 ·intro h
  have h':¬a.data.toList<b.data.toList∧¬a.data.toList=b.data.toList:=by simpa using h
  by_cases hb:b.data.toList<a.data.toList
  ·exact hb
  ·exact absurd (Std.Trichotomous.trichotomous (r:=(· < · : List UInt8→List UInt8→Prop)) _ _ h'.1 hb) h'.2
 ·intro h
  have h1:¬a.data.toList<b.data.toList:=fun h2=>List.lt_asymm h h2
  have h2:¬a.data.toList=b.data.toList:=fun h2=>by rw[h2]at h;exact List.lt_irrefl _ h
  have h3:¬a.data=b.data:=fun he=>h2 (by rw[he])
  simp[h1,h3]
theorem Seen.gt_iff(x y:Seen):x.gt y=true↔y.stamp<x.stamp∨x.stamp=y.stamp∧y.token.data.toList<x.token.data.toList:=by
 unfold Seen.gt
 rw[Bool.or_eq_true,Bool.and_eq_true,decide_eq_true_eq,decide_eq_true_eq,tokGt_iff]
theorem Seen.gt_asymm{x y:Seen}(h:x.gt y=true)(k:y.gt x=true):False:=by
 rw[Seen.gt_iff]at h k
 rcases h with h|⟨h1,h2⟩<;>rcases k with k|⟨k1,k2⟩
 ·omega
 ·omega
 ·omega
 ·exact List.lt_asymm h2 k2
theorem Seen.gt_trans{x y z:Seen}(h:x.gt y=true)(k:y.gt z=true):x.gt z=true:=by
 rw[Seen.gt_iff]at h k ⊢
 rcases h with h|⟨h1,h2⟩<;>rcases k with k|⟨k1,k2⟩
 ·exact .inl (by omega)
 ·exact .inl (by omega)
 ·exact .inl (by omega)
 ·exact .inr ⟨by omega,List.lt_trans k2 h2⟩
theorem Seen.gt_total{x y:Seen}(h:x.token≠y.token)(k:¬x.gt y=true):y.gt x=true:=by
 rw[Seen.gt_iff]at k ⊢
 by_cases h1:x.stamp<y.stamp
 ·exact .inl h1
 by_cases h2:y.stamp<x.stamp
 ·exact absurd (.inl h2) k
 refine .inr ⟨by omega,?_⟩
 by_cases h3:x.token.data.toList<y.token.data.toList
 ·exact h3
 ·refine absurd (ba_ext (Std.Trichotomous.trichotomous (r:=(· < · : List UInt8→List UInt8→Prop)) _ _ h3 fun h4=>k (.inr ⟨by omega,h4⟩))) h
theorem getM_putM{κ β:Type}[DecidableEq κ]{l:List (κ×β)}{k k':κ}{v:β}:getM (putM l k v) k'=if k'=k then some v else getM l k':=by
 unfold getM putM
 by_cases hin:(l.any fun p=>decide (p.1=k))=true
 ·rw[if_pos hin]
  induction l with
  |nil=>simp at hin
  |cons p r ih =>
   by_cases hp:p.1=k
   ·by_cases hk:k'=k
    ·subst hk
     simp[hp]
    ·have hk2:¬k=k':=fun h=>hk h.symm
     have hp2:¬p.1=k':=by rw[hp];exact hk2
     simp only[List.map_cons,if_pos hp,List.find?_cons,decide_eq_false hk2,decide_eq_false hp2]
     by_cases hr:(r.any fun p=>decide (p.1=k))=true
     ·exact ih hr
     ·rw[if_neg hk]
      have:r.map (fun p=>if p.1=k then (k,v) else p)=r:=by
       refine(List.map_congr_left (g:=id) fun q hq=>?_).trans (List.map_id _)
       rw[if_neg]
       ·rfl
       rintro rfl
       exact hr (List.any_eq_true.2 ⟨q,hq,by simp⟩)
      rw[this]
   ·have hr:(r.any fun p=>decide (p.1=k))=true:=by simpa[hp]using hin
    simp only[List.map_cons,if_neg hp,List.find?_cons]
    by_cases hk:p.1=k'
    ·have:¬k'=k:=by rw[←hk];exact hp
     simp[hk,this]
    ·simp only[decide_eq_false hk]
     exact ih hr
 ·rw[if_neg hin,List.find?_append]
  by_cases hk:k'=k
  ·subst hk
   have:l.find? (fun p=>decide (p.1=k'))=none:=by
    rw[List.find?_eq_none]
    intro q hq hc
    exact hin (List.any_eq_true.2 ⟨q,hq,hc⟩)
   simp[this]
  ·have hk2:¬k=k':=fun h=>hk h.symm
   simp[hk,hk2]
theorem putP_get_ne{bs:List Seen}{n k:Int}{pl:List (Pl×Sta)}{c:Cell}{p:Pl}(h:plOf k c.at_≠p):getM (putP bs n k pl c) p=getM pl p:=by
 unfold putP
 split
 ·rw[getM_putM,if_neg fun hc=>h hc.symm]
 ·rfl
theorem putPs_get_ne{bs:List Seen}{n k:Int}{p:Pl}:∀{l:List Cell} {pl:List (Pl×Sta)},(∀c∈l,plOf k c.at_≠p)→getM (putPs bs n k pl l) p=getM pl p
 |[],_,_=>rfl
 |c::r,pl,h=>by
  have:=putPs_get_ne (bs:=bs) (n:=n) (l:=r) (pl:=putP bs n k pl c) fun c' hc'=>h c' (by simp[hc'])
  show getM (putPs bs n k (putP bs n k pl c) r) p=_
  rw[this,putP_get_ne (h c (by simp))]
theorem putPs_get{bs:List Seen}{n k:Int}:∀{l:List Cell} {pl:List (Pl×Sta)},(l.map fun c=>plOf k c.at_).Nodup→∀c∈l,getM (putPs bs n k pl l) (plOf k c.at_)=if newerB bs n (((getM pl (plOf k c.at_)).map (·.batch)).getD 0)=true then some ⟨n,c.vals⟩ else getM pl (plOf k c.at_)
 |[],_,_,c,hc=>by simp at hc
 |d::r,pl,hnd,c,hc=>by
  rw[List.map_cons,List.nodup_cons]at hnd
  show getM (putPs bs n k (putP bs n k pl d) r) _=_
  rcases List.mem_cons.1 hc with rfl|hc
  ·rw[putPs_get_ne fun c' hc' he=>hnd.1 (List.mem_map.2 ⟨c',hc',he⟩)]
   unfold putP
   split
   ·rw[getM_putM,if_pos rfl]
   ·rfl
  ·have hne:plOf k d.at_≠plOf k c.at_:=fun he=>hnd.1 (List.mem_map.2 ⟨c,hc,he.symm⟩)
   rw[putPs_get hnd.2 c hc,putP_get_ne hne]
def Touch(ars:List Nm)(b:Bt)(p:Pl)(v:List Vl):Prop:=∃c∈b.changes,plOf (findA_ ars b.array) c.at_=p∧c.vals=v
def Apart(ars:List Nm)(b:Bt):Prop:=(b.changes.map fun c=>plOf (findA_ ars b.array) c.at_).Nodup
theorem map_nd_eq{α β:Type}{f:α→β}:∀{l:List α} {x y:α},(l.map f).Nodup→x∈l→y∈l→f x=f y→x=y
 |a::r,x,y,h,hx,hy,he=>by
  rw[List.map_cons,List.nodup_cons]at h
  rcases List.mem_cons.1 hx with e1|hx'<;>rcases List.mem_cons.1 hy with e2|hy'
  ·rw[e1,e2]
  ·rw[e1]at he
   exact absurd (List.mem_map.2 ⟨y,hy',he.symm⟩) h.1
  ·rw[e2]at he
   exact absurd (List.mem_map.2 ⟨x,hx',he⟩) h.1
  ·exact map_nd_eq h.2 hx' hy' he
theorem Touch.uniq{ars:List Nm}{b:Bt}{p:Pl}{v v':List Vl}(h:Apart ars b)(h1:Touch ars b p v)(h2:Touch ars b p v'):v=v':=by
 obtain⟨c,hc,e1,rfl⟩:=h1
 obtain⟨d,hd,e2,rfl⟩:=h2
 rw[map_nd_eq h hc hd (e1.trans e2.symm)]
theorem dup_nd{k:Int}:∀{l:List Cell} {met:List Pl},dupE k met l=0→(l.map fun c=>plOf k c.at_).Nodup∧∀c∈l,plOf k c.at_∉met
 |[],_,_=>⟨by simp,by simp⟩
 |c::r,met,h=>by
  rw[dupE]at h
  split at h
  ·cases h
  rename_i hm
  obtain⟨h1,h2⟩:=dup_nd h
  refine⟨?_,fun d hd=>?_⟩
  ·rw[List.map_cons,List.nodup_cons]
   refine⟨fun hc=>?_,h1⟩
   obtain⟨d,hd,he⟩:=List.mem_map.1 hc
   exact h2 d hd (by rw[he];simp)
  ·rcases List.mem_cons.1 hd with rfl|hd
   ·exact hm
   ·exact fun hc=>h2 d hd (List.mem_append_left _ hc)
def Newest(ars:List Nm)(B:List Bt)(b:Bt)(p:Pl):Prop:=∀b'∈B,(∃v,Touch ars b' p v)→b'=b∨b.seen.gt b'.seen=true
inductive At (ars:List Nm) (P0:List (Pl×Sta)) (B:List Bt) (p:Pl):Option Sta→Prop where
 |none (h0:getM P0 p=.none) (hn:∀b∈B,¬∃v,Touch ars b p v):At ars P0 B p .none
 |old (x y:Sta) (hb:x.batch=0) (h0:getM P0 p=some y) (hv:y.vals=x.vals) (hn:∀b∈B,¬∃v,Touch ars b p v):At ars P0 B p (some x)
 |new (x:Sta) (j:Nat) (b:Bt) (hb:x.batch=((j+1:Nat):Int)) (hj:B[j]?=some b) (ht:Touch ars b p x.vals) (hn:Newest ars B b p):At ars P0 B p (some x)
structure Aft (ars:List Nm) (P0:List (Pl×Sta)) (B:List Bt) (st:Sto):Prop where
 arr:st.arrays=ars
 bat:st.batches=B.map Bt.seen
 at_:∀p,At ars P0 B p (getM st.places p)
 apt:∀b∈B,Apart ars b
 tok:(B.map (·.token)).Nodup
theorem newer_snoc{B:List Bt}{b:Bt}{x:Int}:newerB (B.map Bt.seen++[b.seen]) ((B.length+1:Nat):Int) x=(decide (x=0) || match (B.map Bt.seen++[b.seen])[(x - 1).toNat]? with|some y=>b.seen.gt y|none=>false):=by
 unfold newerB
 have e:(((B.length+1:Nat):Int) - 1).toNat=B.length:=by omega
 have e2:(B.map Bt.seen++[b.seen])[B.length]?=some b.seen:=by
  rw[List.getElem?_append_right (by simp)]
  simp
 rw[e,e2]
 cases (B.map Bt.seen++[b.seen])[(x - 1).toNat]?<;>rfl
theorem Aft.commit{ars:List Nm}{P0:List (Pl×Sta)}{B:List Bt}{st:Sto}(h:Aft ars P0 B st){b:Bt}(hb:Apart ars b)(ht:∀x∈B,x.token≠b.token):Aft ars P0 (B++[b]) (st.commit b):=by
 refine⟨h.arr,by show st.batches++[b.seen]=_;rw[h.bat];simp,fun p=>?_,fun x hx=>?_,?_⟩
 ·have ep:(st.commit b).places=putPs (B.map Bt.seen++[b.seen]) ((B.length+1:Nat):Int) (findA_ ars b.array) st.places b.changes:=by
   show putPs (st.batches++[b.seen]) ((st.batches.length+1:Nat):Int) (findA_ st.arrays b.array) st.places b.changes=_
   rw[h.bat,h.arr,List.length_map]
  rw[ep]
  by_cases htc:∃v,Touch ars b p v
  ·obtain⟨v,c,hc,rfl,rfl⟩:=htc
   rw[putPs_get hb c hc]
   have htb:Touch ars b (plOf (findA_ ars b.array) c.at_) c.vals:=⟨c,hc,rfl,rfl⟩
   have hold:=h.at_ (plOf (findA_ ars b.array) c.at_)
   generalize plOf (findA_ ars b.array) c.at_=p at *
   have hlast:(B++[b])[B.length]?=some b:=by rw[List.getElem?_append_right (Nat.le_refl _)];simp
   have newSt:Newest ars (B++[b]) b p→At ars P0 (B++[b]) p (some ⟨((B.length+1:Nat):Int),c.vals⟩):=fun hn=>.new _ B.length b rfl hlast htb hn
   have only:(∀b'∈B,¬∃v,Touch ars b' p v)→Newest ars (B++[b]) b p:=fun hn b' hb' hv=>by
    rcases List.mem_append.1 hb' with hb'|hb'
    ·exact absurd hv (hn b' hb')
    ·simp at hb';exact .inl hb'
   generalize hx:getM st.places p=x at *
   cases hold with
   |none h0 hn =>
    rw[newer_snoc]
    exact newSt (only hn)
   |old x y hb0 h0 hv hn =>
    have e:(Option.map (fun x=>x.batch) (some x)).getD 0=0:=hb0
    rw[e,newer_snoc]
    exact newSt (only hn)
   |new x j b0 hbj hj ht0 hn =>
    have e:(Option.map (fun x=>x.batch) (some x)).getD 0=((j+1:Nat):Int):=hbj
    have hjl:j<B.length:=(List.getElem?_eq_some_iff.1 hj).1
    have hb0:b0∈B:=List.mem_of_getElem? hj
    have e1:(((j+1:Nat):Int) - 1).toNat=j:=by omega
    have e2:(B.map Bt.seen++[b.seen])[j]?=some b0.seen:=by
     rw[List.getElem?_append_left (by simpa using hjl),List.getElem?_map,hj];rfl
    have e3:decide (((j+1:Nat):Int)=0)=false:=by simp;omega
    rw[e,newer_snoc,e1,e2,e3,Bool.false_or]
    dsimp only
    split
    ·rename_i hg
     refine newSt fun b' hb' hv=>?_
     rcases List.mem_append.1 hb' with hb'|hb'
     ·rcases hn b' hb' hv with rfl|hg2
      ·exact .inr hg
      ·exact .inr (Seen.gt_trans hg hg2)
     ·simp at hb';exact .inl hb'
    ·rename_i hg
     have hg':=Seen.gt_total (x:=b.seen) (y:=b0.seen) (fun he=>ht b0 hb0 he.symm) hg
     refine .new x j b0 hbj (by rw[List.getElem?_append_left hjl];exact hj) ht0 fun b' hb' hv=>?_
     rcases List.mem_append.1 hb' with hb'|hb'
     ·exact hn b' hb' hv
     ·simp at hb'
      subst hb'
      exact .inr hg'
  ·rw[putPs_get_ne fun c hc he=>htc ⟨c.vals,c,hc,he,rfl⟩]
   have hnb:∀b'∈B++[b],(∃v,Touch ars b' p v)→b'∈B:=fun b' hb' hv=>by
    rcases List.mem_append.1 hb' with hb'|hb'
    ·exact hb'
    ·simp at hb'
     subst hb'
     exact absurd hv htc
   have hold:=h.at_ p
   generalize getM st.places p=x at *
   cases hold with
   |none h0 hn=>exact .none h0 fun b' hb' hv=>hn b' (hnb b' hb' hv) hv
   |old x y hb0 h0 hv hn=>exact .old x y hb0 h0 hv fun b' hb' hv=>hn b' (hnb b' hb' hv) hv
   |new x j b0 hbj hj ht0 hn=>exact .new x j b0 hbj (by rw[List.getElem?_append_left (List.getElem?_eq_some_iff.1 hj).1];exact hj) ht0 fun b' hb' hv=>hn b' (hnb b' hb' hv) hv
 ·rcases List.mem_append.1 hx with hx|hx
  ·exact h.apt x hx
  ·simp at hx;subst hx;exact hb
 ·rw[List.map_append,List.nodup_append]
  refine⟨h.tok,by simp,fun t ht' u hu=>?_⟩
  obtain⟨y,hy,rfl⟩:=List.mem_map.1 ht'
  simp at hu
  subst hu
  exact ht y hy
theorem Aft.like{ars:List Nm}{P0:List (Pl×Sta)}{B:List Bt}{s t:Sto}(h:Aft ars P0 B s)(nd:(s.places.map (·.1)).Nodup)(k:Like t s):Aft ars P0 B t:=by
 refine⟨k.arr.trans h.arr,k.bat.trans h.bat,fun p=>?_,h.apt,h.tok⟩
 rw[getM_perm k.pls ((k.pls.map _).nodup_iff.2 nd)]
 exact h.at_ p
theorem Aft.same{ars:List Nm}{P0:List (Pl×Sta)}{B B':List Bt}{s t:Sto}(h:Aft ars P0 B s)(k:Aft ars P0 B' t)(hB:∀b,b∈B↔b∈B')(p:Pl):(getM s.places p).map (·.vals)=(getM t.places p).map (·.vals):=by
 have h1:=h.at_ p
 have k1:=k.at_ p
 generalize getM s.places p=x at *
 generalize getM t.places p=y at *
 cases h1 with
 |none h0 hn =>
  cases k1 with
  |none=>rfl
  |old x y hb h0' hv hn'=>rw[h0]at h0';cases h0'
  |new x j b hb hj ht hn'=>exact absurd ⟨_,ht⟩ (hn b ((hB b).2 (List.mem_of_getElem? hj)))
 |old x y hb h0 hv hn =>
  cases k1 with
  |none h0' _=>rw[h0]at h0';cases h0'
  |old x' y' hb' h0' hv' hn' =>
   rw[h0,Option.some.injEq]at h0'
   subst h0'
   show some x.vals=some x'.vals
   rw[←hv,←hv']
  |new x j b hb hj ht hn'=>exact absurd ⟨_,ht⟩ (hn b ((hB b).2 (List.mem_of_getElem? hj)))
 |new x j b hb hj ht hn =>
  cases k1 with
  |none h0' hn'=>exact absurd ⟨_,ht⟩ (hn' b ((hB b).1 (List.mem_of_getElem? hj)))
  |old x' y' hb' h0' hv' hn'=>exact absurd ⟨_,ht⟩ (hn' b ((hB b).1 (List.mem_of_getElem? hj)))
  |new x' j' b' hb' hj' ht' hn' =>
   have e:b=b':=by
    rcases hn b' ((hB b').2 (List.mem_of_getElem? hj')) ⟨_,ht'⟩ with e|g1
    ·exact e.symm
    rcases hn' b ((hB b).1 (List.mem_of_getElem? hj)) ⟨_,ht⟩ with e|g2
    ·exact e
    ·exact absurd g2 fun g2=>Seen.gt_asymm g1 g2
   subst e
   show some x.vals=some x'.vals
   rw[Touch.uniq (h.apt b (List.mem_of_getElem? hj)) ht ht']
end Go.Vc
namespace Go.Vc
open Go Go.Proofs
structure Lq (k:Dk) (num:Int) (nxt:Nat) (st:Sto):Prop where
 v:StoV st
 id:st.id=k.st
 k0:0≤k.st
 n1:k.n≤1024
 lo:st.low≤st.use
 hi:st.use≤k.half
 nx:(nxt:Int)≤st.use
 disk:∃bs ps bt,DkQ k num nxt st.arrays bs ps bt∧StoV (baseSto st.arrays bs ps)∧(∀b∈bt,BtOk (baseSto st.arrays bs ps) b)∧Like ((baseSto st.arrays bs ps).commits bt) st
def Hold(l:List Int)(n:Nat)(arrs:List Nm)(P0:List (Pl×Sta))(B:List Bt)(m U:Int):Prop :=
 ∃num nxt bs ps bt,RecD l n num nxt arrs bs ps bt∧0<num∧num≤m∧StoV (baseSto arrs bs ps)∧(∀b∈bt,BtOk (baseSto arrs bs ps) b)∧StoV ((baseSto arrs bs ps).commits bt)∧Aft arrs P0 B ((baseSto arrs bs ps).commits bt)∧
  ((baseSto arrs bs ps).commits bt).low≤((baseSto arrs bs ps).commits bt).use∧((baseSto arrs bs ps).commits bt).use≤U∧(nxt:Int)≤((baseSto arrs bs ps).commits bt).use
theorem Hold.mono{l:List Int}{n:Nat}{arrs:List Nm}{P0:List (Pl×Sta)}{B:List Bt}{m m' U U':Int}(h:Hold l n arrs P0 B m U)(hm:m≤m')(hU:U≤U'):Hold l n arrs P0 B m' U':=by
 obtain⟨num,nxt,bs,ps,bt,h1,h2,h3,h4,h5,h6,h7,h8,h9,h10⟩:=h
 exact⟨num,nxt,bs,ps,bt,h1,h2,by omega,h4,h5,h6,h7,h8,by omega,h10⟩
section
variable {k:Dk} {num:Int} {nxt:Nat} {st:Sto}
theorem Lq.ready(h:Lq k num nxt st):readyE st k=0:=by
 obtain⟨bs,ps,bt,hD,_⟩:=h.disk
 unfold readyE
 rw[if_neg]
 rintro(hc|hc)
 ·rw[hD.r.qt.on]at hc;cases hc
 ·exact hc h.id
theorem Lq.n10(h:Lq k num nxt st):10≤k.n:=by
 obtain⟨bs,ps,bt,hD,_⟩:=h.disk
 exact hD.r.n2
theorem Lq.qt(h:Lq k num nxt st):Qt k:=by
 obtain⟨bs,ps,bt,hD,_⟩:=h.disk
 exact hD.r.qt
theorem Lq.num0(h:Lq k num nxt st):0<num:=by
 obtain⟨bs,ps,bt,hD,_⟩:=h.disk
 exact hD.r.num0
theorem Lq.half(h:Lq k num nxt st):k.half≤511:=by
 have:=h.n1
 unfold Dk.half Dk.secs
 omega
theorem Lq.stoB(h:Lq k num nxt st):StoB st :=
 ⟨h.v.an,h.v.sch,by have:=h.v.bn;omega,fun p hp=>⟨(h.v.pls p hp).b0,(h.v.pls p hp).b1⟩,h.v.u0,by have:=h.v.u1;omega⟩
theorem Lq.fuse(h:Lq k num nxt st)(f:Int)(p:List Int):Lq { k with fuse:=f,picks:=p } num nxt st:=by
 obtain⟨v,id,k0,n1,lo,hi,nx,bs,ps,bt,hD,h2⟩:=h
 exact⟨v,id,k0,n1,lo,hi,nx,bs,ps,bt,⟨⟨⟨hD.r.qt.on,hD.r.qt.pe,hD.r.qt.eq,hD.r.qt.len⟩,hD.r.n2,hD.r.num0,hD.r.num1,hD.r.rd⟩,hD.z⟩,h2⟩
theorem Lq.put(h:Lq k num nxt st)(b:Bt){arrs:List Nm}{P0:List (Pl×Sta)}{B:List Bt}(hA:Aft arrs P0 B st):
 (st.checkE b=0→st.use+b.weight≤k.half→AddOk k num nxt 2 (encB st.arrays b))∧
 (((st.put k num nxt b).ok=(st.putS k.half b).1∧(st.put k num nxt b).e=(st.putS k.half b).2.1∧(st.put k num nxt b).st=(st.putS k.half b).2.2∧Lq (st.put k num nxt b).k num (st.put k num nxt b).nxt (st.putS k.half b).2.2∧(st.put k num nxt b).k.n=k.n∧(st.put k num nxt b).k.st=k.st)∨
   ((st.putS k.half b).1=true∧(st.put k num nxt b).ok=false∧(st.put k num nxt b).e=17∧(k.add num nxt 2 (encB st.arrays b)).1=17∧Fell (st.put k num nxt b).k k (fun l=>Hold l k.n arrs P0 B num st.use∨Hold l k.n arrs P0 (B++[b]) num (st.use+b.weight)))):=by
 obtain⟨bs,ps,bt,hD,hB,hbt,hL⟩:=h.disk
 have hhalf:=h.half
 have hr:=h.ready
 have hN:k.n≤2048:=by have:=h.n1;omega
 have hhN:k.half=halfN k.n:=rfl
 have hadd:st.checkE b=0→st.use+b.weight≤k.half→nxt+secsOf (encB st.arrays b)<halfN k.n∧(encB st.arrays b).length<16777216:=fun h1 h2=>by
  obtain⟨s1,s2⟩:=encB_secs h.v.sch h.v.an (checkE_ok h1)
  have:=h.nx
  unfold Bt.weight at h2
  exact⟨by omega,s2⟩
 refine⟨fun h1 h2=>(hD.add hN (hadd h1 h2).1 (hadd h1 h2).2).1,?_⟩
 unfold Sto.put Sto.putS
 rw[if_neg (by simp[hr])]
 by_cases h1:st.checkE b≠0
 ·rw[if_pos h1,if_pos h1]
  exact .inl ⟨rfl,rfl,rfl,h,rfl,rfl⟩
 rw[if_neg h1,if_neg h1]
 by_cases h2:st.batches.any (fun x=>decide (x.token=b.token))=true
 ·rw[if_pos h2,if_pos h2]
  exact .inl ⟨rfl,rfl,rfl,h,rfl,rfl⟩
 rw[if_neg h2,if_neg h2]
 by_cases h3:(k.half:Int)<st.use+b.weight
 ·rw[if_pos h3,if_pos h3]
  exact .inl ⟨rfl,rfl,rfl,h,rfl,rfl⟩
 rw[if_neg h3,if_neg h3]
 have h1':=Classical.not_not.1 h1
 have hbo:=checkE_ok h1'
 have hlo:=h.lo
 have hhi:=h.hi
 unfold Sto.low at hlo
 have hpl:=(putPs_nd (bs:=st.batches++[b.seen]) (n:=(st.batches.length+1:Nat)) (k:=findA_ st.arrays b.array) (l:=b.changes) h.v.keys).2
 have ew:b.weight=2+3*(b.changes.length:Int):=rfl
 have ht:∀x∈st.batches,x.token≠b.token:=fun x hx he=>h2 (List.any_eq_true.2 ⟨x,hx,by simpa using he⟩)
 have hbv:∀b'∈bt++[b],BtOk (baseSto st.arrays bs ps) b':=fun b' hb'=>by
  rcases List.mem_append.1 hb' with hb'|hb'
  ·exact hbt b' hb'
  ·simp at hb'
   subst hb'
   exact hbo.of_arr rfl
 have hnd:=(hL.pls.map (·.1)).nodup_iff.2 h.v.keys
 have hLc:Like ((baseSto st.arrays bs ps).commits (bt++[b])) (st.commit b):=by rw[commits_snoc];exact hL.commit hnd b
 have hvc:StoV (st.commit b):=h.v.commit hbo ht (by omega) (by omega) (by omega)
 have hloc:(st.commit b).low≤(st.commit b).use:=by
  show 1+8*(st.arrays.length:Int)+3*((putPs (st.batches++[b.seen]) (st.batches.length+1:Nat) (findA_ st.arrays b.array) st.places b.changes).length:Int)+((st.batches++[b.seen]).length:Int)≤st.use+b.weight
  rw[List.length_append,List.length_cons,List.length_nil]
  omega
 have hnxc:((nxt+1+secsOf (encB st.arrays b):Nat):Int)≤st.use+b.weight:=by
  have:=(encB_secs h.v.sch h.v.an hbo).1
  have:=h.nx
  omega
 have lowL:∀{s t:Sto},Like s t→t.low≤t.use→s.low≤s.use:=fun {s t} hl hlt=>by
  have e2:=hl.pls.length_eq
  unfold Sto.low at hlt ⊢
  rw[hl.us,e2,hl.bat,hl.arr]
  exact hlt
 rcases (hD.add hN (hadd h1' (by omega)).1 (hadd h1' (by omega)).2).2 with ⟨g1,g2⟩|⟨a1,a2,a3,a4⟩
 ·right
  rw[if_pos (by rw[g1];simp)]
  refine⟨rfl,rfl,g1,g1,g2.mono fun l _ hq=>?_⟩
  rcases hq with hq|hq
  ·left
   rw[hA.arr]at hq hB hbt hL
   exact⟨num,nxt,bs,ps,bt,hq,hD.r.num0,Int.le_refl _,hB,hbt,h.v.like hL.symm,hA.like h.v.keys hL,lowL hL h.lo,by rw[hL.us];exact Int.le_refl _,by rw[hL.us];exact h.nx⟩
  ·right
   have hap:Apart arrs b:=by
    have:=hbo.dup
    rw[hA.arr]at this
    exact(dup_nd this).1
   have hAc:=hA.commit hap fun x hx he=>ht x.seen (by rw[hA.bat];exact List.mem_map.2 ⟨x,hx,rfl⟩) he
   rw[hA.arr]at hq hB hbv hLc hnxc
   exact⟨num,_,bs,ps,bt++[b],hq,hD.r.num0,Int.le_refl _,hB,hbv,hvc.like hLc.symm,hAc.like hvc.keys hLc,lowL hLc hloc,by rw[hLc.us];exact Int.le_refl _,by rw[hLc.us];exact hnxc⟩
 ·left
  rw[if_neg (by simp[a1])]
  have hh:(k.add num nxt 2 (encB st.arrays b)).2.half=k.half:=Dk.half_n a3
  refine⟨rfl,rfl,rfl,⟨hvc,?_,?_,?_,hloc,?_,hnxc,bs,ps,bt++[b],a2,hB,hbv,hLc⟩,a3,a4⟩
  ·show st.id=_
   rw[h.id];exact a4.symm
  ·show 0≤(k.add num nxt 2 (encB st.arrays b)).2.st
   rw[a4];exact h.k0
  ·show(k.add num nxt 2 (encB st.arrays b)).2.n≤1024
   rw[a3];exact h.n1
  ·show st.use+b.weight≤(k.add num nxt 2 (encB st.arrays b)).2.half
   rw[hh];omega
end
theorem Hold.opened{k:Dk}{arrs:List Nm}{P0:List (Pl×Sta)}{B:List Bt}{m U:Int}(hq:Qt k)(h:Hold k.now k.n arrs P0 B m U)(n2:10≤k.n)(n1:k.n≤1024)(hm:m<1000000)(k0:0≤k.st)(hU:U≤k.half):
 ∃nxt bs ps bt,0<k.newest∧k.newest≤m∧Recs k k.newest 0 ((1,encBase arrs bs ps)::bt.map fun b=>(2,encB arrs b)) nxt∧StoV (baseSto arrs bs ps)∧(∀b∈bt,BtOk (baseSto arrs bs ps) b)∧bt.length≤1000∧
 (((k.clear k.newest nxt).1=17∧Fell (k.clear k.newest nxt).2 k (fun l=>Hold l k.n arrs P0 B m U))∨
   ((k.clear k.newest nxt).1=0∧(k.clear k.newest nxt).2.n=k.n∧(k.clear k.newest nxt).2.st=k.st∧
     ∀i,i=k.st+1→Lq { (k.clear k.newest nxt).2 with st:=i } k.newest nxt { (baseSto arrs bs ps).commits bt with id:=i }∧Aft arrs P0 B { (baseSto arrs bs ps).commits bt with id:=i }∧((baseSto arrs bs ps).commits bt).use≤U)):=by
 obtain⟨num,nxt,bs,ps,bt,h1,h2,h3,h4,h5,h6,h7,h8,h9,h10⟩:=h
 have hR:DkR k num nxt arrs bs ps bt:=⟨hq,n2,h2,by omega,h1⟩
 obtain⟨o1,o2,o3⟩:=hR.opened
 have hbl:bt.length≤1000:=by
  have:=commits_bat bt (baseSto arrs bs ps)
  have e:=congrArg List.length this
  rw[List.length_append,List.length_map]at e
  have:=h6.bn
  omega
 rw[o1]
 refine⟨nxt,bs,ps,bt,h2,h3,o2,h4,h5,hbl,?_⟩
 rcases o3 with ⟨g1,g2⟩|⟨c1,c2,c3,c4⟩
 ·exact .inl ⟨g1,g2.mono fun l _ hq=>⟨num,nxt,bs,ps,bt,hq,h2,h3,h4,h5,h6,h7,h8,h9,h10⟩⟩
 ·refine .inr ⟨c1,c2,c3,?_⟩
  rintro i rfl
  have ha:((baseSto arrs bs ps).commits bt).arrays=arrs:=commits_arr bt _
  have hh:({ (k.clear num nxt).2 with st:=k.st+1 }:Dk).half=k.half:=Dk.half_n c2
  refine⟨⟨h6.withId _,rfl,by dsimp only;omega,by dsimp only;rw[c2];exact n1,h8,by rw[hh];exact Int.le_trans h9 hU,h10,bs,ps,bt,?_,?_,?_,?_⟩,⟨h7.arr,h7.bat,h7.at_,h7.apt,h7.tok⟩,h9⟩
  ·dsimp only
   rw[ha];exact c4 _
  ·dsimp only
   rw[ha];exact h4
  ·dsimp only
   rw[ha];exact h5
  ·have e:baseSto ((baseSto arrs bs ps).commits bt).arrays bs ps=baseSto arrs bs ps:=by rw[ha]
   show Like ((baseSto ((baseSto arrs bs ps).commits bt).arrays bs ps).commits bt) _
   rw[e]
   exact(Like.withId _ _).symm
end Go.Vc
namespace Go.Vc
open Go Go.Proofs
structure Fx where
 arrs:List Nm
 P0:List (Pl×Sta)
 n:Nat
def SysQ(X:Fx)(M:List Nat)(w:World)(s d:Nat)(z:Bool)(m U:Int)(B:List Bt)(G:List Nat):Prop :=
 ∃l num nxt k F Fd st,SysAt M w s l d num nxt st k F Fd∧Lq k num nxt st∧Aft X.arrs X.P0 B st∧st.use≤U∧U≤(halfN X.n:Nat)∧k.n=X.n∧num≤m∧k.st≤m∧(z=true→k.fuse = -1)∧G=F++Fd
def DskQ(X:Fx)(M:List Nat)(w:World)(d:Nat)(on z:Bool)(m U:Int)(B:List Bt)(G:List Nat):Prop :=
 ∃k,DkAt M w d k G∧k.down = !on∧k.pend=[]∧k.dur=k.now∧k.now.length=64*k.n∧Hold k.now k.n X.arrs X.P0 B m U∧U≤(halfN X.n:Nat)∧k.n=X.n∧10≤k.n∧k.n≤1024∧0≤k.st∧k.st≤m∧(z=true→k.fuse = -1)
section
variable {X:Fx} {M G:List Nat} {w:World} {s d:Nat} {z:Bool} {m U:Int} {B:List Bt}
theorem SysQ.kp0(h:SysQ X M w s d z m U B G){w':World}(kp:KpL [] w w'):SysQ X M w' s d z m U B G:=by
 obtain⟨l,num,nxt,k,F,Fd,st,hS,r⟩:=h
 exact⟨l,num,nxt,k,F,Fd,st,hS.kp0 kp,r⟩
theorem DskQ.kp0{on:Bool}(h:DskQ X M w d on z m U B G){w':World}(kp:KpL [] w w'):DskQ X M w' d on z m U B G:=by
 obtain⟨k,hD,r⟩:=h
 exact⟨k,hD.kp0 kp,r⟩
def Taken(B:List Bt)(b:Bt)(ok:Bool):List Bt:=if ok=true then B++[b] else B
def ansE(arrs:List Nm)(B:List Bt)(b:Bt):Bool×Int :=
 if ({ id:=0,arrays:=arrs,places:=[],batches:=[],use:=0 }:Sto).checkE b≠0 then (false,({ id:=0,arrays:=arrs,places:=[],batches:=[],use:=0 }:Sto).checkE b) else if B.any (fun x=>decide (x.token=b.token))=true then (false,0) else (true,0)
theorem putS_ans{st:Sto}(hA:Aft X.arrs X.P0 B st){b:Bt}{half:Nat}(hu:st.use+b.weight≤half):(st.putS half b).1=(ansE X.arrs B b).1∧(st.putS half b).2.1=(ansE X.arrs B b).2∧Aft X.arrs X.P0 (Taken B b (ansE X.arrs B b).1) (st.putS half b).2.2∧(st.putS half b).2.2.use≤st.use+b.weight:=by
 have hw:0≤b.weight:=by unfold Bt.weight;omega
 have hck:st.checkE b=({ id:=0,arrays:=X.arrs,places:=[],batches:=[],use:=0 }:Sto).checkE b:=by unfold Sto.checkE;rw[hA.arr]
 have han:st.batches.any (fun x=>decide (x.token=b.token))=B.any (fun x=>decide (x.token=b.token)):=by rw[hA.bat,List.any_map];rfl
 unfold Sto.putS ansE Taken
 rw[hck,han]
 by_cases h1:({ id:=0,arrays:=X.arrs,places:=[],batches:=[],use:=0 }:Sto).checkE b≠0
 ·rw[if_pos h1,if_pos h1]
  exact⟨rfl,rfl,hA,by dsimp only;omega⟩
 rw[if_neg h1,if_neg h1]
 by_cases h2:B.any (fun x=>decide (x.token=b.token))=true
 ·rw[if_pos h2,if_pos h2]
  exact⟨rfl,rfl,hA,by dsimp only;omega⟩
 rw[if_neg h2,if_neg h2,if_neg (by omega)]
 refine⟨rfl,rfl,?_,Int.le_refl _⟩
 rw[←hck]at h1
 have hd:=(checkE_ok (Classical.not_not.1 h1)).dup
 rw[hA.arr]at hd
 exact hA.commit (dup_nd hd).1 fun x hx he=>h2 (List.any_eq_true.2 ⟨x,hx,by simpa using he⟩)
theorem fell_dsk{k' k:Dk}{arrs:List Nm}{P0:List (Pl×Sta)}{m' U':Int}{F':List Nat}{w':World}(hX:X=⟨arrs,P0,k.n⟩)(h:Fell k' k (fun l=>Hold l k.n arrs P0 B m' U'))(hD:DkAt M w' d k' F')(h10:10≤k.n)(hn:k.n≤1024)(k0:0≤k.st)(hst:k.st≤m)(hm:m'≤m)(hU:U'≤U)(hU2:U≤(halfN X.n:Nat)):DskQ X M w' d false true m U B F':=by
 subst hX
 refine⟨k',hD,h.dn,h.pe,h.eq.symm,by rw[h.eq,h.len,h.n],?_,hU2,h.n,by rw[h.n];exact h10,by rw[h.n];exact hn,by rw[h.st];exact k0,by rw[h.st];exact hst,fun _=>h.fz⟩
 rw[h.eq,h.n]
 exact h.q.mono hm hU
theorem SysQ.put(h:SysQ X M w s d z m U B G){Mc:List Nat}{b:Bt}{ca:Option Addr}{cn cc:Nat}(hc:R (tSl tCell) (G++Mc) w b.changes [.slice ca cn cc])(hU:U+b.weight≤(halfN X.n:Nat)):
 Calls Tryz.prog 13 #[.pointer (some ⟨s,0,none⟩),.agg #[.string b.token,.int .i64 b.stamp,.string b.array,.slice ca cn cc]] w fun e w'=>∃G',Own G w G' w'∧
  ((e=.returned (.tuple #[.bool (ansE X.arrs B b).1,.int .i64 (ansE X.arrs B b).2])∧SysQ X M w' s d z m (U+b.weight) (Taken B b (ansE X.arrs B b).1) G')∨
   (z=false∧(ansE X.arrs B b).1=true∧e=.returned (.tuple #[.bool false,.int .i64 17])∧(DskQ X M w' d false true m (U+b.weight) B G'∨DskQ X M w' d false true m (U+b.weight) (B++[b]) G'))):=by
 have hw:0≤b.weight:=by unfold Bt.weight;omega
 obtain⟨l,num,nxt,k,F,Fd,st,hS,hL,hA,hu,hh,hn,h1,h2,hz,rfl⟩:=h
 have hhalf:k.half=halfN X.n:=by rw[Dk.half_eqN,hn]
 obtain⟨hao,hres⟩:=hL.put b hA
 have hn10:=hL.n10
 obtain⟨a1,a2,a3,a4⟩:=putS_ans (X:=X) hA (b:=b) (half:=k.half) (by rw[hhalf];omega)
 refine(sPut_ok hS hc hL.stoB (by omega) (by have:=hL.num0;omega) hao).mono ?_
 rintro e w' ⟨rfl,F',Fd',h',hO⟩
 rcases hres with ⟨p1,p2,p3,p4,p5,p6⟩|⟨q1,q2,q3,q4,q5⟩
 ·refine⟨F'++Fd',hO,.inl ⟨by rw[p1,p2,a1,a2],?_⟩⟩
  rw[p3]at h'
  exact⟨l,num,_,_,F',Fd',_,h',p4,a3,by omega,hU,p5.trans hn,h1,by rw[p6];exact h2,fun hzt=>(On1.put ⟨hL.qt.on,hz hzt⟩ st num nxt b).2,rfl⟩
 ·refine⟨Fd',⟨hO.kp,fun x hx=>hO.new x (by simp[hx])⟩,.inr ⟨?_,by rw[←a1];exact q1,by rw[q2,q3],?_⟩⟩
  ·cases z with
   |false=>rfl
   |true =>
    have:=(On1.put ⟨hL.qt.on,hz rfl⟩ st num nxt b).1
    rw[q5.dn]at this
    cases this
  ·have hD:DkAt M w' d (st.put k num nxt b).k Fd':=h'.dk.weak fun x hx=>by simp[hx]
   have hq:=q5.q
   have hX:X=⟨X.arrs,X.P0,k.n⟩:=by rw[hn]
   rcases hq with hq|hq
   ·exact .inl (fell_dsk hX ⟨q5.dn,q5.pe,q5.eq,q5.len,hq,q5.n,q5.st,q5.fz⟩ hD hn10 hL.n1 hL.k0 h2 h1 (by omega) hU)
   ·exact .inr (fell_dsk hX ⟨q5.dn,q5.pe,q5.eq,q5.len,hq,q5.n,q5.st,q5.fz⟩ hD hn10 hL.n1 hL.k0 h2 h1 (by omega) hU)
theorem DskQ.opn(h:DskQ X M w d true z m U B G)(hm:m<900000):
 Calls Tryz.prog 15 #[.pointer (some ⟨d,0,none⟩)] w fun e w'=>∃G',Own G w G' w'∧
  ((∃s,e=.returned (.tuple #[.pointer (some ⟨s,0,none⟩),.int .i64 0])∧SysQ X M w' s d z (m+1) U B G')∨(z=false∧e=.returned (.tuple #[.pointer none,.int .i64 17])∧DskQ X M w' d false true m U B G')):=by
 obtain⟨k,hD,hon,hpe,heq,hlen,hH,hU,hn,h10,hn1,k0,k1,hz⟩:=h
 have hq:Qt k:=⟨hon,hpe,heq,hlen⟩
 have hhalf:k.half=halfN X.n:=by rw[Dk.half_eqN,hn]
 obtain⟨nxt,bs,ps,bt,n0,n1,hrec,hv,hb,hbl,hres⟩:=hH.opened hq h10 hn1 (by omega) k0 (by rw[hhalf];exact hU)
 have hst:(k.clear k.newest nxt).2.st=k.st:=by
  rcases hres with ⟨g1,g2⟩|⟨g1,g2,g3,_⟩
  ·exact g2.st
  ·exact g3
 refine(sOpen_ok (e:=nxt) hD (by omega) hon (by rw[hpe];simp) (by omega) (by omega) (by rw[hst];exact ini_i64.2 (by omega)) hrec hv hb hbl).mono ?_
 intro e w' hh
 rcases hres with ⟨g1,g2⟩|⟨g1,g2,g3,g4⟩
 ·rw[if_pos (by rw[g1];simp),g1]at hh
  obtain⟨rfl,Fd',hD',hO⟩:=hh
  refine⟨Fd',hO,.inr ⟨?_,rfl,?_⟩⟩
  ·cases z with
   |false=>rfl
   |true =>
    have:(k.clear k.newest nxt).2.down=false:=(On1.clear ⟨hon,hz rfl⟩ _ _).1
    rw[g2.dn]at this
    cases this
  ·exact fell_dsk (by rw[hn]) g2 hD' h10 hn1 k0 k1 (Int.le_refl _) (Int.le_refl _) hU
 ·rw[if_neg (by simp[g1])]at hh
  obtain⟨s,l,F,Fd',rfl,h',hO⟩:=hh
  obtain⟨f1,f2,f3⟩:=g4 ((k.clear k.newest nxt).2.st+1) (by rw[hst])
  refine⟨F++Fd',hO,.inl ⟨s,rfl,l,k.newest,nxt,_,F,Fd',_,h',f1,f2,f3,hU,g2.trans hn,by omega,by dsimp only;rw[hst];omega,fun hzt=>(On1.clear ⟨hon,hz hzt⟩ _ _).2,rfl⟩⟩
theorem DskQ.restart{on:Bool}(h:DskQ X M w d on z m U B G):Calls Tryz.prog 34 #[.pointer (some ⟨d,0,none⟩)] w fun e w'=>e=.returned (.int .i64 0)∧∃G',Own G w G' w'∧DskQ X M w' d true true m U B G':=by
 obtain⟨k,hD,hon,hpe,heq,hlen,hH,hU,hn,h10,hn1,k0,k1,hz⟩:=h
 refine(dRestart_ok hD).mono ?_
 rintro e w' ⟨rfl,F',hD',hO⟩
 exact⟨rfl,F',hO,k.restart,hD',rfl,hpe,heq,hlen,hH,hU,hn,h10,hn1,k0,k1,fun _=>rfl⟩
theorem DskQ.down{on:Bool}(h:DskQ X M w d on z m U B G):Calls Tryz.prog 38 #[.pointer (some ⟨d,0,none⟩)] w (PureR (.bool (!on)) w):=by
 obtain⟨k,hD,hon,_⟩:=h
 have:=dDown_ok hD
 rw[hon]at this
 exact this
theorem SysAt.dkTo{l num nxt}{F Fd:List Nat}{st:Sto}{k k':Dk}{w':World}(h:SysAt M w s l d num nxt st k F Fd)(ht:DkTo (F++M) Fd w d k' w'):∃Fd',SysAt M w' s l d num nxt st k' F Fd'∧Own (F++Fd) w (F++Fd') w':=by
 obtain⟨Fd',hD,hO⟩:=ht
 refine h.logTo ⟨Fd',hD,⟨hO.kp.mono fun x hx=>by simp[hx],fun x hx=>?_⟩,h.sto.log.keep hO.kp fun hm=>(h.dk.own_lt l hm).2 (List.mem_append_left _ h.sto.lF)⟩
 rcases List.mem_cons.1 hx with rfl|hx
 ·exact .inl (by simp)
 ·exact(hO.new x hx).imp (fun h=>by simp[h]) id
theorem SysQ.down(h:SysQ X M w s d z m U B G):Calls Tryz.prog 38 #[.pointer (some ⟨d,0,none⟩)] w (PureR (.bool false) w):=by
 obtain⟨l,num,nxt,k,F,Fd,st,hS,hL,_⟩:=h
 have:=dDown_ok hS.dk
 rw[hL.qt.on]at this
 exact this
end
end Go.Vc
namespace Go.Vc
open Go Go.Proofs
open Go.Value Go.Ending Go.IntKind
set_option maxRecDepth 100000
theorem lformatted_vc{n:Int}{dba:Option Addr}{dbn dbc:Nat}{w:World}{R:Ending→World→Prop}
 (h :
 CallW Tryz.prog 19 #[int i64 n] w fun e1 w1 =>
 ∃a1 n1,e1=returned (tuple #[pointer a1,int i64 n1])∧
 KpL [] w w1∧
 CallW Tryz.prog 20 #[pointer a1,slice dba dbn dbc] w1 fun e2 w2 =>
 ∃a2 n2,e2=returned (tuple #[pointer a2,int i64 n2])∧
 ∃l1,KpL l1 w1 w2∧
 (n1=0→
 (n2=0→
 (¬a1=none→
 R (returned (tuple #[pointer a1,pointer a2,Value.bool (decide ¬a2=none)])) w2)∧
 (¬¬a1=none→
 R (returned (tuple #[pointer a1,pointer a2,Value.bool false])) w2))∧
 (¬n2=0→
 R (returned (tuple #[pointer a1,pointer a2,Value.bool false])) w2))∧
 (¬n1=0→
 R (returned (tuple #[pointer a1,pointer a2,Value.bool false])) w2)):Calls Tryz.prog 12 #[int i64 n,slice dba dbn dbc] w R :=
 fnc0 (an:={ muts:=[20],all:=true }) (args:=[.a (.c (.v (.int .i64 n))),.a (.c (.v (.slice dba dbn dbc)))]) Tryz_ok Tryz.func12 (by kernel_rfl) rfl rfl h
theorem lhas_vc{s:Nat}{la:Option Addr}{ln lc:Nat}{w:World}{R:Ending→World→Prop}
 (h :
 CallW Tryz.prog 16 #[pointer (some (Addr.mk s 0 none))] w fun e1 w1 =>
 ∃a1 k1 k2 n1,e1=returned (tuple #[slice a1 k1 k2,int i64 n1])∧
 KpL [] w w1∧
 (¬n1≠0→
 (¬(↑k1:Int)≠(1:Int)→
 ∃d1,a1=some d1∧
 (0:Int)≤(0:Int)∧
 (0:Int)<(↑k1:Int)∧
 ∃a2 k3 k4,LdA w1 (((d1.add (Int.toNat 0*4)).add 1).add 2) [slice a2 k3 k4]∧
 ((↑k3:Int)≠(↑ln:Int)→
 R (returned (Value.bool false)) w1)∧
 (¬(↑k3:Int)≠(↑ln:Int)→
 ∃(P1:List Value→World→Prop) (P2:List Value→World→Nat),P1 [int i64 0] w1∧
 ∀n2 w2,P1 [int i64 n2] w2→
 (n2<(↑ln:Int)→
 ∃d2,a1=some d2∧
 (0:Int)≤(0:Int)∧
 (0:Int)<(↑k1:Int)∧
 ∃a3 k5 k6,LdA w2 (((d2.add (Int.toNat 0*4)).add 1).add 2) [slice a3 k5 k6]∧
 ∃d3,a3=some d3∧
 0≤n2∧
 n2<(↑k5:Int)∧
 ∃a4 k7 k8 a5 k9 k10,LdA w2 (d3.add (n2.toNat*2)) [slice a4 k7 k8,slice a5 k9 k10]∧
 ∀k11,w2.heap.size≤k11→
 (¬(↑k7:Int)≠(2:Int)→
 ∃d4,a4=some d4∧
 (0:Int)≤(0:Int)∧
 (0:Int)<(↑k7:Int)∧
 ∃n3,LdA w2 (d4.add (Int.toNat 0*1)) [int i64 n3]∧
 ∃d5,la=some d5∧
 0≤n2∧
 n2<(↑ln:Int)∧
 ∃a6 k12 k13,LdA w2 ((d5.add (n2.toNat*2)).add 0) [slice a6 k12 k13]∧
 ∃d6,a6=some d6∧
 (0:Int)≤(0:Int)∧
 (0:Int)<(↑k12:Int)∧
 ∃n4,LdA w2 (d6.add (Int.toNat 0*1)) [int i64 n4]∧
 (¬n3≠n4→
 ∃d7,a4=some d7∧
 (0:Int)≤(1:Int)∧
 (1:Int)<(↑k7:Int)∧
 ∃n5,LdA w2 (d7.add (Int.toNat 1*1)) [int i64 n5]∧
 ∃d8,la=some d8∧
 0≤n2∧
 n2<(↑ln:Int)∧
 ∃a7 k14 k15,LdA w2 ((d8.add (n2.toNat*2)).add 0) [slice a7 k14 k15]∧
 ∃d9,a7=some d9∧
 (0:Int)≤(1:Int)∧
 (1:Int)<(↑k14:Int)∧
 ∃n6,LdA w2 (d9.add (Int.toNat 1*1)) [int i64 n6]∧
 (¬n5≠n6→
 (¬(↑k9:Int)≠(1:Int)→
 ∃d10,a5=some d10∧
 (0:Int)≤(0:Int)∧
 (0:Int)<(↑k9:Int)∧
 ∃n7 n8 n9 s1,LdA w2 (d10.add (Int.toNat 0*4)) [int i64 n7,int i64 n8,int i64 n9,string s1]∧
 ∃d11,la=some d11∧
 0≤n2∧
 n2<(↑ln:Int)∧
 ∃a8 k16 k17,LdA w2 ((d11.add (n2.toNat*2)).add 1) [slice a8 k16 k17]∧
 ∃d12,a8=some d12∧
 (0:Int)≤(0:Int)∧
 (0:Int)<(↑k16:Int)∧
 ∃n10 n11 n12 s2,LdA w2 (d12.add (Int.toNat 0*4)) [int i64 n10,int i64 n11,int i64 n12,string s2]∧
 ∃b1,Pv Tryz.prog
 (do
 eqGuard BinOp.neq 161 (Operand.tmp 88) (Operand.tmp 95) (agg #[int i64 n7,int i64 n8,int i64 n9,string s1]) (agg #[int i64 n10,int i64 n11,int i64 n12,string s2])
 binOp BinOp.neq 161 (agg #[int i64 n7,int i64 n8,int i64 n9,string s1]) (agg #[int i64 n10,int i64 n11,int i64 n12,string s2]))
 (Value.bool b1)∧
 (b1=true→
 ∀w3,KpL [] w2 w3→
 Hb w3 k11 #[slice a4 k7 k8,slice a5 k9 k10] 147→
 R (returned (Value.bool false)) w3)∧
 (b1=false→
 InI i64 (n2+1)∧
 ∀w4,KpL [] w2 w4→
 Hb w4 k11 #[slice a4 k7 k8,slice a5 k9 k10] 147→
 P1 [int i64 (n2+1)] w4∧
 P2 [int i64 (n2+1)] w4<P2 [int i64 n2] w2))∧
 ((↑k9:Int)≠(1:Int)→
 ∀w5,KpL [] w2 w5→
 Hb w5 k11 #[slice a4 k7 k8,slice a5 k9 k10] 147→
 R (returned (Value.bool false)) w5))∧
 (n5≠n6→
 ∀w6,KpL [] w2 w6→
 Hb w6 k11 #[slice a4 k7 k8,slice a5 k9 k10] 147→
 R (returned (Value.bool false)) w6))∧
 (n3≠n4→
 ∀w7,KpL [] w2 w7→
 Hb w7 k11 #[slice a4 k7 k8,slice a5 k9 k10] 147→
 R (returned (Value.bool false)) w7))∧
 ((↑k7:Int)≠(2:Int)→
 ∀w8,KpL [] w2 w8→
 Hb w8 k11 #[slice a4 k7 k8,slice a5 k9 k10] 147→
 R (returned (Value.bool false)) w8))∧
 (¬n2<(↑ln:Int)→
 R (returned (Value.bool true)) w2)))∧
 ((↑k1:Int)≠(1:Int)→
 R (returned (Value.bool false)) w1))∧
 (n1≠0→
 R (returned (Value.bool false)) w1)):Calls Tryz.prog 28 #[pointer (some (Addr.mk s 0 none)),slice la ln lc] w R :=
 fnc0 (an:={ loops:=[⟨5,[7],[4,8,32,33,34,35,36,37,38,39,40,41,42,43,44,45,46,47,48,49,50,51,52,53,54,55,56,57,58,59,60,61,62,63,64,65,66,67,68,69,70,71,72,73,74,75,76,77,78,79,80,81,82,83,84,85,86,87,88,89,90,91,92,93,94,95,96,97],[]⟩],all:=true }) (args:=[.a (.c (.v (.pointer (some ⟨s,0,none⟩)))),.a (.c (.v (.slice la ln lc)))]) Tryz_ok Tryz.func28 (by kernel_rfl) rfl rfl h
theorem lmade_vc{u:Nat}{w:World}{R:Ending→World→Prop}
 (h :
 CallW Tryz.prog 19 #[int i64 64] w fun e1 w1 =>
 ∃a1 n1,e1=returned (tuple #[pointer a1,int i64 n1])∧
 KpL [] w w1∧
 CallW Tryz.prog 36 #[] w1 fun e2 w2 =>
 ∃a2 k1 k2,e2=returned (slice a2 k1 k2)∧
 KpL [] w1 w2∧
 CallW Tryz.prog 20 #[pointer a1,slice a2 k1 k2] w2 fun e3 w3 =>
 ∃a3 n2,e3=returned (tuple #[pointer a3,int i64 n2])∧
 ∃l1,KpL l1 w2 w3∧
 (¬n1≠0→
 (¬n2≠0→
 (¬a1=none→
 (a3=none→
 R (returned (tuple #[pointer none,pointer none,Value.bool false])) w3)∧
 (¬a3=none→
 CallW Tryz.prog 29 #[pointer a3] w3 fun e4 w4 =>
 ∃n3 n4,e4=returned (tuple #[int i64 n3,int i64 n4])∧
 KpL [] w3 w4∧
 (n3=22→
 (n4=0→
 ∀k3,w4.heap.size≤k3→
 ∀w5,KpL [] w4 w5→
 Hb w5 k3 #[int i64 1] 2→
 CallW Tryz.prog 26 #[int i64 0,int i64 0,slice (some (Addr.mk k3 0 none)) 1 1] w5 fun e5 w6 =>
 ∃a4 k4 k5 a5 k6 k7,e5=returned (agg #[slice a4 k4 k5,slice a5 k6 k7])∧
 KpL [] w5 w6∧
 ∀k8,w6.heap.size≤k8→
 ∀w7,KpL [] w6 w7→
 Hb w7 k8 #[int i64 2] 2∧
 Hb w7 k3 #[int i64 1] 2→
 CallW Tryz.prog 26 #[int i64 1,int i64 0,slice (some (Addr.mk k8 0 none)) 1 1] w7 fun e6 w8 =>
 ∃a6 k9 k10 a7 k11 k12,e6=returned (agg #[slice a6 k9 k10,slice a7 k11 k12])∧
 KpL [] w7 w8∧
 ∀k13,w8.heap.size≤k13→
 ∀w9,KpL [] w8 w9→
 Hb w9 k13 #[slice a4 k4 k5,slice a5 k6 k7,slice a6 k9 k10,slice a7 k11 k12] 81∧
 Hb w9 k8 #[int i64 2] 2∧
 Hb w9 k3 #[int i64 1] 2→
 CallW Tryz.prog 25 (#[string (ByteArray.mk #[97]),int i64 5,slice (some (Addr.mk k13 0 none)) 2 2]) w9 fun e7 w10 =>
 ∃s1 n5 s2 a8 k14 k15,e7=returned (agg #[string s1,int i64 n5,string s2,slice a8 k14 k15])∧
 KpL [] w9 w10∧
 (Hb w10 k13 #[slice a4 k4 k5,slice a5 k6 k7,slice a6 k9 k10,slice a7 k11 k12] 81∧
 Hb w10 k8 #[int i64 2] 2∧
 Hb w10 k3 #[int i64 1] 2→
 CallW Tryz.prog 27 (#[pointer a3,agg #[string s1,int i64 n5,string s2,slice a8 k14 k15]]) w10 fun e8 w11 =>
 ∃b1,e8=returned (Value.bool b1)∧
 ∃l2,KpL l2 w10 w11∧
 (NotIn k13 l2∧
 NotIn k8 l2∧
 NotIn k3 l2)∧
 (b1=true→
 ∀k16,w11.heap.size≤k16→
 ∀w12,KpL [] w11 w12→
 Hb w12 k16 #[int i64 3] 2∧
 Hb w12 k13 #[slice a4 k4 k5,slice a5 k6 k7,slice a6 k9 k10,slice a7 k11 k12] 81∧
 Hb w12 k8 #[int i64 2] 2∧
 Hb w12 k3 #[int i64 1] 2→
 CallW Tryz.prog 26 #[int i64 1,int i64 0,slice (some (Addr.mk k16 0 none)) 1 1] w12 fun e9 w13 =>
 ∃a9 k17 k18 a10 k19 k20,e9=returned (agg #[slice a9 k17 k18,slice a10 k19 k20])∧
 KpL [] w12 w13∧
 ∀k21,w13.heap.size≤k21→
 ∀w14,KpL [] w13 w14→
 Hb w14 k21 #[int i64 4] 2∧
 Hb w14 k16 #[int i64 3] 2∧
 Hb w14 k13 #[slice a4 k4 k5,slice a5 k6 k7,slice a6 k9 k10,slice a7 k11 k12] 81∧
 Hb w14 k8 #[int i64 2] 2∧
 Hb w14 k3 #[int i64 1] 2→
 CallW Tryz.prog 26 #[int i64 3,int i64 1,slice (some (Addr.mk k21 0 none)) 1 1] w14 fun e10 w15 =>
 ∃a11 k22 k23 a12 k24 k25,e10=returned (agg #[slice a11 k22 k23,slice a12 k24 k25])∧
 KpL [] w14 w15∧
 ∀k26,w15.heap.size≤k26→
 ∀w16,KpL [] w15 w16→
 Hb w16 k26 #[slice a9 k17 k18,slice a10 k19 k20,slice a11 k22 k23,slice a12 k24 k25] 81∧
 Hb w16 k21 #[int i64 4] 2∧
 Hb w16 k16 #[int i64 3] 2∧
 Hb w16 k13 #[slice a4 k4 k5,slice a5 k6 k7,slice a6 k9 k10,slice a7 k11 k12] 81∧
 Hb w16 k8 #[int i64 2] 2∧
 Hb w16 k3 #[int i64 1] 2→
 CallW Tryz.prog 25 (#[string (ByteArray.mk #[98]),int i64 4,slice (some (Addr.mk k26 0 none)) 2 2]) w16 fun e11 w17 =>
 ∃s3 n6 s4 a13 k27 k28,e11=returned (agg #[string s3,int i64 n6,string s4,slice a13 k27 k28])∧
 KpL [] w16 w17∧
 (Hb w17 k26 #[slice a9 k17 k18,slice a10 k19 k20,slice a11 k22 k23,slice a12 k24 k25] 81∧
 Hb w17 k21 #[int i64 4] 2∧
 Hb w17 k16 #[int i64 3] 2∧
 Hb w17 k13 #[slice a4 k4 k5,slice a5 k6 k7,slice a6 k9 k10,slice a7 k11 k12] 81∧
 Hb w17 k8 #[int i64 2] 2∧
 Hb w17 k3 #[int i64 1] 2→
 CallW Tryz.prog 27 (#[pointer a3,agg #[string s3,int i64 n6,string s4,slice a13 k27 k28]]) w17 fun e12 w18 =>
 ∃b2,e12=returned (Value.bool b2)∧
 ∃l3,KpL l3 w17 w18∧
 (NotIn k26 l3∧
 NotIn k21 l3∧
 NotIn k16 l3∧
 NotIn k13 l3∧
 NotIn k8 l3∧
 NotIn k3 l3)∧
 (Hb w18 k26 #[slice a9 k17 k18,slice a10 k19 k20,slice a11 k22 k23,slice a12 k24 k25] 81∧
 Hb w18 k21 #[int i64 4] 2∧
 Hb w18 k16 #[int i64 3] 2∧
 Hb w18 k13 #[slice a4 k4 k5,slice a5 k6 k7,slice a6 k9 k10,slice a7 k11 k12] 81∧
 Hb w18 k8 #[int i64 2] 2∧
 Hb w18 k3 #[int i64 1] 2→
 R (returned (tuple #[pointer a1,pointer a3,Value.bool b2])) w18)))∧
 (b1=false→
 Hb w11 k13 #[slice a4 k4 k5,slice a5 k6 k7,slice a6 k9 k10,slice a7 k11 k12] 81∧
 Hb w11 k8 #[int i64 2] 2∧
 Hb w11 k3 #[int i64 1] 2→
 R (returned (tuple #[pointer a1,pointer a3,Value.bool false])) w11)))∧
 (¬n4=0→
 R (returned (tuple #[pointer a1,pointer a3,Value.bool false])) w4))∧
 (¬n3=22→
 R (returned (tuple #[pointer a1,pointer a3,Value.bool false])) w4)))∧
 (a1=none→
 R (returned (tuple #[pointer none,pointer none,Value.bool false])) w3))∧
 (n2≠0→
 R (returned (tuple #[pointer none,pointer none,Value.bool false])) w3))∧
 (n1≠0→
 R (returned (tuple #[pointer none,pointer none,Value.bool false])) w3)):Calls Tryz.prog 24 #[] w R :=
 fnc0 (an:={ muts:=[20,27],all:=true }) (args:=[]) Tryz_ok Tryz.func24 (by kernel_rfl) rfl rfl h
theorem lworks_vc{u:Nat}{w:World}{R:Ending→World→Prop}
 (h :
 CallW Tryz.prog 24 #[] w fun e1 w1 =>
 ∃a1 a2 b1,e1=returned (tuple #[pointer a1,pointer a2,Value.bool b1])∧
 ∃l1,KpL l1 w w1∧
 ((!b1)=false→
 ∀k1,w1.heap.size≤k1→
 ∀w2,KpL [] w1 w2→
 Hb w2 k1 #[int i64 1] 2→
 CallW Tryz.prog 26 #[int i64 0,int i64 0,slice (some (Addr.mk k1 0 none)) 1 1] w2 fun e2 w3 =>
 ∃a3 k2 k3 a4 k4 k5,e2=returned (agg #[slice a3 k2 k3,slice a4 k4 k5])∧
 KpL [] w2 w3∧
 ∀k6,w3.heap.size≤k6→
 ∀w4,KpL [] w3 w4→
 Hb w4 k6 #[int i64 2] 2∧
 Hb w4 k1 #[int i64 1] 2→
 CallW Tryz.prog 26 #[int i64 1,int i64 0,slice (some (Addr.mk k6 0 none)) 1 1] w4 fun e3 w5 =>
 ∃a5 k7 k8 a6 k9 k10,e3=returned (agg #[slice a5 k7 k8,slice a6 k9 k10])∧
 KpL [] w4 w5∧
 ∀k11,w5.heap.size≤k11→
 ∀w6,KpL [] w5 w6→
 Hb w6 k11 #[int i64 4] 2∧
 Hb w6 k6 #[int i64 2] 2∧
 Hb w6 k1 #[int i64 1] 2→
 CallW Tryz.prog 26 #[int i64 3,int i64 1,slice (some (Addr.mk k11 0 none)) 1 1] w6 fun e4 w7 =>
 ∃a7 k12 k13 a8 k14 k15,e4=returned (agg #[slice a7 k12 k13,slice a8 k14 k15])∧
 KpL [] w6 w7∧
 ∀k16,w7.heap.size≤k16→
 ∀w8,KpL [] w7 w8→
 Hb w8 k16 #[slice a3 k2 k3,slice a4 k4 k5,slice a5 k7 k8,slice a6 k9 k10,slice a7 k12 k13,slice a8 k14 k15] 81∧
 Hb w8 k11 #[int i64 4] 2∧
 Hb w8 k6 #[int i64 2] 2∧
 Hb w8 k1 #[int i64 1] 2→
 CallW Tryz.prog 28 #[pointer a2,slice (some (Addr.mk k16 0 none)) 3 3] w8 fun e5 w9 =>
 ∃b2,e5=returned (Value.bool b2)∧
 KpL [] w8 w9∧
 ((!b2)=true→
 Hb w9 k16 #[slice a3 k2 k3,slice a4 k4 k5,slice a5 k7 k8,slice a6 k9 k10,slice a7 k12 k13,slice a8 k14 k15] 81∧
 Hb w9 k11 #[int i64 4] 2∧
 Hb w9 k6 #[int i64 2] 2∧
 Hb w9 k1 #[int i64 1] 2→
 R (returned (Value.bool false)) w9)∧
 ((!b2)=false→
 Hb w9 k16 #[slice a3 k2 k3,slice a4 k4 k5,slice a5 k7 k8,slice a6 k9 k10,slice a7 k12 k13,slice a8 k14 k15] 81∧
 Hb w9 k11 #[int i64 4] 2∧
 Hb w9 k6 #[int i64 2] 2∧
 Hb w9 k1 #[int i64 1] 2→
 CallW Tryz.prog 29 #[pointer a2] w9 fun e6 w10 =>
 ∃n1 n2,e6=returned (tuple #[int i64 n1,int i64 n2])∧
 KpL [] w9 w10∧
 (n1=6→
 Hb w10 k16 #[slice a3 k2 k3,slice a4 k4 k5,slice a5 k7 k8,slice a6 k9 k10,slice a7 k12 k13,slice a8 k14 k15] 81∧
 Hb w10 k11 #[int i64 4] 2∧
 Hb w10 k6 #[int i64 2] 2∧
 Hb w10 k1 #[int i64 1] 2→
 R (returned (Value.bool (decide (n2=0)))) w10)∧
 (¬n1=6→
 Hb w10 k16 #[slice a3 k2 k3,slice a4 k4 k5,slice a5 k7 k8,slice a6 k9 k10,slice a7 k12 k13,slice a8 k14 k15] 81∧
 Hb w10 k11 #[int i64 4] 2∧
 Hb w10 k6 #[int i64 2] 2∧
 Hb w10 k1 #[int i64 1] 2→
 R (returned (Value.bool false)) w10)))∧
 ((!b1)=true→
 R (returned (Value.bool false)) w1)):Calls Tryz.prog 9 #[] w R :=
 fnc0 (an:={ muts:=[24],all:=true }) (args:=[]) Tryz_ok Tryz.func9 (by kernel_rfl) rfl rfl h
end Go.Vc
namespace Go.Vc
open Go Go.Proofs
theorem addr_add(ad:Addr)(i j:Nat):(ad.add i).add j=ad.add (i+j):=by
 unfold Addr.add
 by_cases hi:i=0<;>by_cases hj:j=0<;>simp[hi,hj,Nat.add_assoc]
def okDb(n:Nat)(db:List Nm):Prop:=dbE db=0∧db.length≠0∧(fmtSto db).use≤(((n - 2) / 2:Nat):Int)
instance (n:Nat) (db:List Nm):Decidable (okDb n db):=by unfold okDb;infer_instance
end Go.Vc
namespace Go.Vc
open Go Go.Proofs
theorem csorted_eq:∀{xs ys:List Cell},xs.Perm ys→CSorted xs→CSorted ys→xs=ys
 |[],ys,h,_,_=>(List.nil_perm.1 h).symm
 |x::r,[],h,_,_=>absurd h.length_eq (by simp)
 |x::r,y::t,h,hx,hy=>by
  unfold CSorted at hx hy
  rw[List.pairwise_cons]at hx hy
  have hxy:x=y:=by
   rcases List.mem_cons.1 (h.mem_iff.1 (List.mem_cons_self ..)) with e|hm
   ·exact e
   rcases List.mem_cons.1 (h.mem_iff.2 (List.mem_cons_self ..)) with e|hm2
   ·exact e.symm
   have h1:=hy.1 x hm
   have h2:=hx.1 y hm2
   have h3:=cmpL_swap x.at_ y.at_
   omega
  subst hxy
  rw[csorted_eq ((List.perm_cons x).1 h) hx.2 hy.2]
theorem lhas_ok{M Ml G:List Nat}{w:World}{s d n:Nat}{c:Int}{st:Sto}(h:SysL M w s d n c st G){cs:List Cell}{la:Option Addr}{ln lc:Nat}(hl:R (tSl tCell) Ml w cs [.slice la ln lc])(ha:st.arrays.length=1)
 (hcs:∀ys:List Cell,ys.Perm (cellsI st.arrays st.places 0)→CSorted ys→ys=cs)(hsh:∀x∈cs,x.at_.length=2∧x.vals.length=1):
 Calls Tryz.prog 28 #[.pointer (some ⟨s,0,none⟩),.slice la ln lc] w (PureR (.bool true) w):=by
 obtain⟨rfl,_,_⟩:=hl.sl_len
 have hmx:maxSl=140737488355328:=rfl
 refine lhas_vc ⟨(h.db (N:=[]) (by simp)).mono ?_⟩
 rintro e w1 ⟨hk1,out,a,m,q,rfl,hlen,hrel,hR⟩
 obtain⟨rfl,_,_⟩:=hR.sl_len
 have g0:0<out.length:=by omega
 have hcells:out[0].arr.cells=cs:=by
  obtain⟨x,hx,_,_,_,hp,hs⟩:=hrel 0 out[0] (List.getElem?_eq_getElem g0)
  exact hcs _ hp hs
 have get:∀{w':World},KpL [] w1 w'→∃ad b3 p3 q3,a=some ad∧LdA w' (((ad.add (0*4)).add 1).add 2) [.slice b3 p3 q3]∧R (tSl tCell) [] w' cs [.slice b3 p3 q3]:=by
  intro w' hk
  obtain⟨ad,cs',rfl,hv1,_,_,_,hpt⟩:=(hR.kp0 hk).sl_get2 g0
  obtain⟨b1,p1,q1,b2,p2,q2,b3,p3,q3,rfl,_,_,_,x3⟩:=hv1.nm
  rw[hcells]at x3
  refine⟨ad,b3,p3,q3,rfl,?_,x3⟩
  rw[addr_add]
  exact hpt 3 [_] rfl
 refine⟨a,_,q,0,rfl,hk1,fun _=>⟨fun _=>?_,fun hc=>absurd (by omega) hc⟩,fun hc=>absurd rfl hc⟩
 obtain⟨ad,b3,p3,q3,rfl,hld0,hx0⟩:=get (KpL.refl _ _)
 obtain⟨hp3,_,_⟩:=hx0.sl_len
 refine⟨ad,rfl,by omega,by omega,b3,p3,q3,hld0,fun hc=>absurd (by omega) hc,fun _=>?_⟩
 refine⟨fun vs w'=>∃i:Nat,vs=[.int .i64 (i:Int)]∧i≤cs.length∧KpL [] w1 w',fun vs _=>match vs with|[.int _ i]=>cs.length - i.toNat|_=>0,⟨0,rfl,by omega,KpL.refl _ _⟩,?_⟩
 rintro n2 w2 ⟨i,hv,hi,hk2⟩
 simp only[List.cons.injEq,Value.int.injEq,true_and,and_true]at hv
 subst hv
 constructor
 ·intro hlt
  have gi:i<cs.length:=by omega
  obtain⟨ad',c3,r3,t3,had,hld2,hx2⟩:=get hk2
  simp only[Option.some.injEq]at had
  subst had
  obtain⟨hr3,_,_⟩:=hx2.sl_len
  obtain⟨ad3,cs3,rfl,hv3,hld3,_,_⟩:=hx2.sl_get gi
  obtain⟨a4,k7,k8,a5,k9,k10,rfl,y1,y2⟩:=hv3.cell
  obtain⟨ad5,cs5,rfl,hv5,_,_,_,hpt5⟩:=(hl.kp0 (hk1.trans hk2)).sl_get2 gi
  obtain⟨a6,k12,k13,a8,k16,k17,rfl,z1,z2⟩:=hv5.cell
  obtain⟨s1,s2⟩:=hsh cs[i] (List.getElem_mem gi)
  obtain⟨hy1,_,_⟩:=y1.sl_len
  obtain⟨hy2,_,_⟩:=y2.sl_len
  obtain⟨hz1,_,_⟩:=z1.sl_len
  obtain⟨hz2,_,_⟩:=z2.sl_len
  obtain⟨ad4,c4,rfl,v4,l4,_,_⟩:=y1.sl_get (i:=0) (by omega)
  obtain⟨rfl,_⟩:=v4.intD
  obtain⟨ad4',c4',had4,v4',l4',_,_⟩:=y1.sl_get (i:=1) (by omega)
  obtain⟨rfl,_⟩:=v4'.intD
  simp only[Option.some.injEq]at had4
  subst had4
  obtain⟨ad6,c6,rfl,v6,l6,_,_⟩:=z1.sl_get (i:=0) (by omega)
  obtain⟨rfl,_⟩:=v6.intD
  obtain⟨ad6',c6',had6,v6',l6',_,_⟩:=z1.sl_get (i:=1) (by omega)
  obtain⟨rfl,_⟩:=v6'.intD
  simp only[Option.some.injEq]at had6
  subst had6
  obtain⟨ad10,c10,rfl,v10,l10,_,_⟩:=y2.sl_get (i:=0) (by omega)
  obtain⟨rfl,_⟩:=v10.val
  obtain⟨ad12,c12,rfl,v12,l12,_,_⟩:=z2.sl_get (i:=0) (by omega)
  obtain⟨rfl,_⟩:=v12.val
  have hg:Tryz.prog.eqGuardType Tryz.prog.depth 161=false:=by kernel_rfl
  refine⟨ad,rfl,by omega,by omega,_,_,_,hld2,ad3,rfl,by omega,by omega,_,_,_,_,_,_,hld3,fun k11 hk11=>⟨fun _=>⟨ad4,rfl,by omega,by omega,_,l4,ad5,rfl,by omega,hlt,_,_,_,hpt5 0 [_] rfl,ad6,rfl,by omega,by omega,_,l6,fun _=>?_,fun hc=>absurd rfl hc⟩,fun hc=>absurd (by omega) hc⟩⟩
  refine⟨ad4,rfl,by omega,by omega,_,l4',ad5,rfl,by omega,hlt,_,_,_,hpt5 0 [_] rfl,ad6,rfl,by omega,by omega,_,l6',fun _=>⟨fun _=>?_,fun hc=>absurd (by omega) hc⟩,fun hc=>absurd rfl hc⟩
  refine⟨ad10,rfl,by omega,by omega,_,_,_,_,l10,ad5,rfl,by omega,hlt,_,_,_,hpt5 1 [_] rfl,ad12,rfl,by omega,by omega,_,_,_,_,l12,_,pv_neq hg (fun w=>eq161 w _ _ _ _ _ _ _ _),fun hc=>?_,fun _=>⟨ini_i64.2 (by omega),fun w4 hk4 _=>⟨⟨i+1,rfl,by omega,hk2.trans hk4⟩,by dsimp only;omega⟩⟩⟩
  simp at hc
 ·intro _
  exact⟨rfl,hk1.trans hk2⟩
end Go.Vc
