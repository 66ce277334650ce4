/- A part of the proof of the theorem that this claim hands in: merged and shortened by small programs out of texts of my own. -/
import Derived.Test.YtlmpniofhabmiaaGreatPlbD
set_option linter.unusedVariables false
set_option linter.unusedSimpArgs false
set_option linter.unusedSectionVars false
namespace Go.Vc
open Go Go.Proofs
set_option maxHeartbeats 4000000 in
theorem rv{M F Fd:List Nat}{w:World}{s l d:Nat}{num:Int}{nxt:Nat}{st:bg}{k:Dk}(h:bU M w s l d num nxt st k F Fd)(hv:dy st)(h2:2<=k.n)(hnum:0<=num)(hnum2:num<=1000000)
 (hpl:k.pend.length<=900000)(hA:∀ps',ps'.Perm st.places->(k.clear (num+1) 0).1=0->gz (k.clear (num+1) 0).2 (num+1) 0 1 (ap st.arrays st.batches ps'))
 (hT:∀ps',ps'.Perm st.places->(k.clear (num+1) 0).1=0->((k.clear (num+1) 0).2.add (num+1) 0 1 (ap st.arrays st.batches ps')).1=0->((k.clear (num+1) 0).2.add (num+1) 0 1 (ap st.arrays st.batches ps')).2.pend.length<=1000000):
 Calls Zz 14 #[pK s] w fun e w'=>∃ps',ps'.Perm st.places/\e=.returned (iv (st.cmp k num nxt ps').e)/\
  ∃l' F' Fd',bU M w' s l' d (st.cmp k num nxt ps').num (st.cmp k num nxt ps').nxt (st.cmp k num nxt ps').st (st.cmp k num nxt ps').k F' Fd'/\ci (F++Fd) w (F'++Fd') w':=by
 refine my fun k1 hk1 w1 hw1 hkn1=>⟨(gH (h.kp0 hw1).sto (h.kp0 hw1).dk).mono ?_⟩
 rintro e w2 ⟨rfl,hw2⟩
 have hk02:=hw1.trans hw2
 have h2':=h.kp0 hk02
 refine⟨_,rfl,hw2,fun hr _=>?_,fun hr=>?_⟩
 ·refine⟨st.places,List.Perm.refl _,?_⟩
  have e:st.cmp k num nxt st.places=⟨cw st k,st,k,num,nxt⟩:=by unfold bg.cmp;rw[if_pos hr]
  rw[e]
  exact⟨rfl,l,F,Fd,h2',ci.of0 hk02⟩
 have hlog2:=h2'.sto.log
 have hls:ao w2 ((⟨s,0,none⟩:Addr).add 0) [pK l]:=by
  obtain⟨m,ra,rn,rc,qa,qn,qc,hI,_,_⟩:=h2'.sto
  rw[al];exact ak hI.hs 0 [_] rfl
 have hl0:ao w2 ((⟨l,0,none⟩:Addr).add 0) [pK d]:=by rw[al];exact ak hlog2 0 [_] rfl
 have ew:IntKind.u64.wrap (num+1)=num+1:=aE (aJ.2 (by omega))
 have s1:=hw1.size
 have s2:=hw2.size
 have hk1l:=ab hkn1
 have fin:∀{wa:World},∀w' ps',ps'.Perm st.places->∀l' F' Fd',bU M w' s l' d (st.cmp k num nxt ps').num (st.cmp k num nxt ps').nxt (st.cmp k num nxt ps').st (st.cmp k num nxt ps').k F' Fd'->ci (F++Fd) w (F'++Fd') w'->
  ∃ps',ps'.Perm st.places/\Ending.returned (iv (st.cmp k num nxt ps').e)=.returned (iv (st.cmp k num nxt ps').e)/\∃l' F' Fd',bU M w' s l' d (st.cmp k num nxt ps').num (st.cmp k num nxt ps').nxt (st.cmp k num nxt ps').st (st.cmp k num nxt ps').k F' Fd'/\ci (F++Fd) w (F'++Fd') w' :=
  fun {_} w' ps' hp l' F' Fd' hs ho=>⟨ps',hp,rfl,l',F',Fd',hs,ho⟩
 refine⟨_,hls,_,rfl,_,hl0,_,hls,_,rfl,_,hlog2.ld1,fun w3 hw3 hkn3=>?_,fun k4 hk4 w12 hw12 hkn12=>?_⟩
 ·rw[ew]
  refine nX fun w4 hb4 hw4=>⟨_,rfl,[],hw4,⟨by simp⟩,fun k2 hk2 k3 hk3 w5 hw5 hkn5=>?_⟩
  have s3:=hw3.size
  have hb5:=(hw5.blk _ (ab hb4) (by simp)).trans hb4
  refine⟨(wE (nxt:=nxt) h hv hr h2 hnum hpl hA hT (((hk02.trans hw3).trans hw4).trans hw5) (l3:=w3.heap.size) hb5 (by omega) hkn5.1 hkn5.2.1 hkn5.2.2 (by have:=hw4.size;omega) (by have:=hw4.size;omega) hk1 (Q:=fun e w'=>∃ps',ps'.Perm st.places/\e=.returned (iv (st.cmp k num nxt ps').e)/\
   ∃l' F' Fd',bU M w' s l' d (st.cmp k num nxt ps').num (st.cmp k num nxt ps').nxt (st.cmp k num nxt ps').st (st.cmp k num nxt ps').k F' Fd'/\ci (F++Fd) w (F'++Fd') w') fun w' ps' hp l' F' Fd' hs ho=>⟨ps',hp,rfl,l',F',Fd',hs,ho⟩).mono fun _ _ hh=>hh⟩
 ·rw[ew]
  refine nX fun w13 hb13 hw13=>⟨_,rfl,[],hw13,⟨⟨by simp⟩,⟨by simp⟩⟩,fun k5 hk5 w14 hw14 hkn14=>?_⟩
  have s12:=hw12.size
  have hk4l:=ab hkn12.1
  have hb14:=(hw14.blk _ (ab hb13) (by simp;omega)).trans hb13
  have hk14:KpL [] w w14:=((hk02.trans hw12).trans hw13).more hw14 (by simp;omega)
  refine⟨(wE (nxt:=nxt) h hv hr h2 hnum hpl hA hT hk14 (l3:=w12.heap.size) hb14 (by omega) hkn14.1 hkn14.2.1 hkn14.2.2 (by omega) (by have:=hw13.size;omega) hk1 (Q:=fun e w'=>∃ps',ps'.Perm st.places/\e=.returned (iv (st.cmp k num nxt ps').e)/\
   ∃l' F' Fd',bU M w' s l' d (st.cmp k num nxt ps').num (st.cmp k num nxt ps').nxt (st.cmp k num nxt ps').st (st.cmp k num nxt ps').k F' Fd'/\ci (F++Fd) w (F'++Fd') w') fun w' ps' hp l' F' Fd' hs ho=>⟨ps',hp,rfl,l',F',Fd',hs,ho⟩).mono fun _ _ hh=>hh⟩
end Go.Vc
namespace Go.Vc
open Go Go.Proofs
abbrev Cc:=Option Addr×Nat×Nat
def CQ(x:Cc):Value:=.slice x.1 x.2.1 x.2.2
def CJ(sl:List Cc)(i:Nat):List Nat:=(sl.eraseIdx i).flatMap fun x=>aj x.1
theorem gR{sl:List Cc}{i b:Nat}:b∈CJ sl i↔∃k x,k≠i/\sl[k]?=some x/\b∈aj x.1:=by
 unfold CJ
 rw[List.mem_flatMap]
 constructor
 ·rintro⟨x,hx,hb⟩
  obtain⟨k,hk,hx⟩:=List.mem_eraseIdx_iff_getElem?.1 hx
  exact⟨k,x,hk,hx,hb⟩
 ·rintro⟨k,x,hk,hx,hb⟩
  exact⟨x,List.mem_eraseIdx_iff_getElem?.2 ⟨k,hk,hx⟩,hb⟩
structure lw (M:List Nat) (w:World) (cb T:Nat) (ls:List (List aR)) (sl:List Cc):Prop where
 hb:w.heap[cb]?=some (.cells (sl.map CQ).toArray T (0,0))
 len:sl.length=ls.length
 acc:∀i x c,sl[i]?=some x->ls[i]?=some c->bI aC (CJ sl i++cb::M) w c x.1 x.2.1 x.2.2
 cM:cb∉M
section
variable {M:List Nat} {w w':World} {cb T:Nat} {ls:List (List aR)} {sl:List Cc} (h:lw M w cb T ls sl)
include h
theorem lw.kp{N:List Nat}(k:KpL N w w')(hN:∀b∈N,b∈M):lw M w' cb T ls sl :=
 ⟨(k.blk cb (ab h.hb) fun hm=>h.cM (hN cb hm)).trans h.hb,h.len,fun i x c hx hc=>(h.acc i x c hx hc).kp k fun b hb=>by simp[hN b hb],h.cM⟩
theorem lw.kp0(k:KpL [] w w'):lw M w' cb T ls sl:=h.kp k (by simp)
theorem lw.blk_lt{i:Nat}{x:Cc}(hx:sl[i]?=some x):∀b∈aj x.1,b<w.heap.size/\b≠cb/\b∉M:=by
 intro b hb
 have hi:i<ls.length:=by rw[<-h.len];exact(List.getElem?_eq_some_iff.1 hx).1
 have:=(h.acc i x ls[i] hx (List.getElem?_eq_getElem hi)).blk_lt b hb
 exact⟨this.1,fun e=>this.2 (by simp[e]),fun e=>this.2 (by simp[e])⟩
theorem lw.set{i:Nat}{x y:Cc}{c c':List aR}{w1:World}(hx:sl[i]?=some x)(_hc:ls[i]?=some c)(hC:aZ aC (CJ sl i++cb::M) w x.1 c' y.1 y.2.1 y.2.2 w1):
 lw M (bL w1 ((⟨cb,0,none⟩:Addr).add (i*1)) [CQ y] 0) cb T (ls.set i c') (sl.set i y)/\KpL (aj x.1) w w1/\KpL [cb] w1 (bL w1 ((⟨cb,0,none⟩:Addr).add (i*1)) [CQ y] 0)/\(∃l,ao w1 ((⟨cb,0,none⟩:Addr).add (i*1)) l/\l.length=1)/\aq w1 ((⟨cb,0,none⟩:Addr).add (i*1)) 1:=by
 have hil:i<sl.length:=(List.getElem?_eq_some_iff.1 hx).1
 have hcb:cb∉aj x.1:=fun hm=>(h.blk_lt hx cb hm).2.1 rfl
 have hb1:w1.heap[cb]?=some (.cells (sl.map CQ).toArray T (0,0)):=(hC.kp.blk cb (ab h.hb) hcb).trans h.hb
 obtain⟨s1,s2,s3,s4,s5⟩:=zq (i:=i) (v:=CQ y) hb1 (by simpa using hil)
 refine⟨⟨by rw[List.map_set];exact s4,by simp[h.len],fun j z d hz hd=>?_,h.cM⟩,hC.kp,s5,s1,s2⟩
 have sz1:=hC.kp.size
 rw[List.getElem?_set]at hz hd
 by_cases hij:i=j
 ·subst hij
  rw[if_pos rfl,if_pos hil,Option.some.injEq]at hz
  rw[if_pos rfl,if_pos (by rw[<-h.len];exact hil),Option.some.injEq]at hd
  subst hz hd
  refine(hC.acc.weak fun b hb=>?_).kp s5 (by simp)
  rcases List.mem_append.1 hb with hb|hb
  ·obtain⟨k,z,hk,hz,hbz⟩:=gR.1 hb
   rw[List.getElem?_set,if_neg (Ne.symm hk)]at hz
   exact List.mem_append_left _ (gR.2 ⟨k,z,hk,hz,hbz⟩)
  ·exact List.mem_append_right _ hb
 ·rw[if_neg hij]at hz hd
  have hA:=h.acc j z d hz hd
  have hxo:∀b∈aj x.1,b∈CJ sl j:=fun b hb=>gR.2 ⟨i,x,hij,hx,hb⟩
  refine(hA.step hC.kp (fun b hb=>List.mem_append_left _ (hxo b hb)) (M':=CJ (sl.set i y) j++cb::M) fun b hb=>?_).kp s5 (by simp)
  rcases List.mem_append.1 hb with hb|hb
  ·obtain⟨k,u,hk,hu,hbu⟩:=gR.1 hb
   rw[List.getElem?_set]at hu
   by_cases hik:i=k
   ·subst hik
    rw[if_pos rfl,if_pos hil,Option.some.injEq]at hu
    subst hu
    exact⟨(hC.own b hbu).imp (fun h=>List.mem_append_left _ (hxo b h)) id,(hC.acc.blk_lt b hbu).1⟩
   ·rw[if_neg hik]at hu
    exact⟨.inl (List.mem_append_left _ (gR.2 ⟨k,u,hk,hu,hbu⟩)),by have:=(h.blk_lt hu b hbu).1;omega⟩
  ·have:=hA.mlt b (List.mem_append_right _ hb)
   exact⟨.inl (List.mem_append_right _ hb),by omega⟩
end
theorem lw.new{M:List Nat}{w:World}{cb T n:Nat}(hb:w.heap[cb]?=some (.cells (List.replicate n (Value.slice none 0 0)).toArray T (0,0)))(hM:∀b∈M,b<w.heap.size)(hc:cb∉M):lw M w cb T (List.replicate n []) (List.replicate n (none,0,0)):=by
 refine⟨by simpa[CQ]using hb,by simp,fun i x c hx hc=>?_,hc⟩
 rw[List.getElem?_replicate]at hx hc
 split at hx
 ·rename_i hi
  rw[if_pos hi]at hc
  simp only[Option.some.injEq]at hx hc
  subst hx hc
  refine bI.nil' _ fun b hb'=>?_
  rcases List.mem_append.1 hb' with hb'|hb'
  ·obtain⟨k,z,_,hz,hbz⟩:=gR.1 hb'
   rw[List.getElem?_replicate]at hz
   split at hz
   ·simp at hz;subst hz;simp[aj]at hbz
   ·cases hz
  ·rcases List.mem_cons.1 hb' with rfl|hb'
   ·exact ab hb
   ·exact hM b hb'
 ·cases hx
def gq(arrays:List Nm)(i:Nat)(p:Pl×dE):Option aR:=if p.1.a=i/\p.2.vals.length≠0 then some ⟨p.1.co.take (cY arrays p.1.a),p.2.vals⟩ else none
def bj(arrays:List Nm)(ps:List (Pl×dE))(i:Nat):List aR:=ps.filterMap (gq arrays i)
def rN(arrays:List Nm)(ps:List (Pl×dE))(out:List Nm):Prop :=
 ∀(i:Nat) (y:Nm),out[i]?=some y->∃x:Nm,arrays[i]?=some x/\y.name=x.name/\y.arr.dims=x.arr.dims/\y.arr.attrs=x.arr.attrs/\y.arr.cells.Perm (bj arrays ps i)/\bq y.arr.cells
theorem wQ{arrays:List Nm}{nb:Nat}{ps:List (Pl×dE)}{i:Nat}{x:Nm}(hs:∀x∈arrays,aV x.arr.dims x.arr.attrs=0)(hp:∀p∈ps,tY arrays nb p)(hx:arrays[i]?=some x):∀c∈bj arrays ps i,cT x.arr.dims x.arr.attrs c=0:=by
 intro c hc
 unfold bj at hc
 obtain⟨p,hpm,hpc⟩:=List.mem_filterMap.1 hc
 unfold gq at hpc
 split at hpc
 ·rename_i h
  simp only[Option.some.injEq]at hpc
  subst hpc
  have hok:=hp p hpm
  obtain⟨g1,g2,g3,g4,g5,g6,g7,g8⟩:=hok.dims hs
  obtain⟨h0,⟨y,hy,⟨at_,h1,h2,h3⟩,h4,h5⟩,_,_⟩:=hok
  have hia:p.1.a.toNat=i:=by omega
  rw[hia,hx,Option.some.injEq]at hy
  subst hy
  have hn:cY arrays p.1.a=x.arr.dims.length:=by unfold cY;rw[hia,hx]
  have hco:p.1.co.take (cY arrays p.1.a)=at_:=by
   have e2:p.1.co=(be p.1.a at_).co:=congrArg Pl.co h3
   have hd:=dN (cS (hs x (List.mem_of_getElem? hx))).1
   rw[hn,<-h1,e2]
   unfold Pl.co be
   match at_,(by omega:1<=at_.length/\at_.length<=4) with
   |[a],_=>rfl
   |[a,b],_=>rfl
   |[a,b,c],_=>rfl
   |[a,b,c,d],_=>rfl
   |_::_::_::_::_::_,h=>simp at h
  unfold cT
  rw[hco]
  dsimp only
  rw[if_neg,if_neg (by simp[h2]),if_neg (by simp[h4])]
  simp only[not_or,Decidable.not_not]
  refine⟨h1,?_⟩
  rcases h5 with h5|h5
  ·rw[h5]at h;simp at h
  ·exact h5
 ·cases hpc
theorem zi{arrays:List Nm}{nb:Nat}{ps:List (Pl×dE)}{i:Nat}(hs:∀x∈arrays,aV x.arr.dims x.arr.attrs=0)(hp:∀p∈ps,tY arrays nb p)(hk:(ps.map (·.1)).Nodup):((bj arrays ps i).map (·.at_)).Nodup:=by
 induction ps with
 |nil=>simp[bj]
 |cons p r ih =>
  rw[List.map_cons,List.nodup_cons]at hk
  have ih':=ih (fun q hq=>hp q (by simp[hq])) hk.2
  unfold bj at ih' ⊢
  rw[List.filterMap_cons]
  cases hc:gq arrays i p with
  |none=>exact ih'
  |some c =>
   simp only[List.map_cons,List.nodup_cons]
   refine⟨fun hm=>?_,ih'⟩
   obtain⟨c',hc',he⟩:=List.mem_map.1 hm
   obtain⟨q,hq,hqc⟩:=List.mem_filterMap.1 hc'
   have hpo:=(hp p (by simp)).dims hs
   have hqo:=(hp q (by simp[hq])).dims hs
   unfold gq at hc hqc
   split at hc
   ·rename_i h1
    split at hqc
    ·rename_i h2
     simp only[Option.some.injEq]at hc hqc
     subst hc hqc
     dsimp only at he
     apply hk.1
     refine List.mem_map.2 ⟨q,hq,?_⟩
     rw[<-hpo.2.2.2.2.2.1,<-hqo.2.2.2.2.2.1,he,h1.1,h2.1]
    ·cases hqc
   ·cases hc
end Go.Vc
namespace Go.Vc
open Go Go.Proofs
theorem FM:EZ Zz 140 56 (.slice none 0 0) 24:=zU (i:=(Tryz.prog.info? 56).getD default) (z:=.slice none 0 0) (by kernel_rfl) (by kernel_rfl) (by kernel_rfl) rfl (by kernel_rfl) (by kernel_rfl)
def zL(r n:Nat)(w:World):Nat:=match w.heap[r]? with
 |some (Obj.mapIter _ _ vis _)=>n - vis.size
 |_=>0
theorem wI{w:World}{r m n:Nat}{arr:Array MapEntry}{clock:Nat}{vis:List Nat}(h:ou w r m arr clock vis):zL r n w=n - vis.length:=by
 unfold zL
 rw[h.it]
 simp
theorem jZ{arrays:List Nm}{ps:List (Pl×dE)}{p:Pl×dE}{i:Nat}:bj arrays (ps++[p]) i=bj arrays ps i++(gq arrays i p).toList:=by
 unfold bj
 rw[List.filterMap_append]
 cases h:gq arrays i p<;>simp[h]
structure Fm (w:World) (it cb m:Nat) (arr:Array MapEntry) (clock:Nat) (arrays:List Nm) (places:List (Pl×dE)) (vis:List Nat) (sl:List Cc) (w':World):Prop where
 hit:ou w' it m arr clock vis
 kp:KpL [] w w'
 bk:lw [it] w' cb 56 ((List.range arrays.length).map (bj arrays (ck places vis))) sl
 new:∀(i:Nat) (x:Cc),sl[i]?=some x->∀b∈aj x.1,w.heap.size<=b
set_option maxHeartbeats 8000000 in
theorem D4{M0 M M' F Fd:List Nat}{w:World}{s l d:Nat}{num nxt:Int}{st:bg}{k:Dk}(h:aK M0 w s l d num nxt st F)(hd:bz M' w d k Fd)(hv:dy st)(hM:∀b∈M,b<w.heap.size):
 Calls Zz 16 #[pK s] w fun e w'=>KpL [] w w'/\if cw st k≠0 then e=.returned (.tuple #[.slice none 0 0,iv (cw st k)]) else
  ∃out a n c,e=.returned (.tuple #[.slice a n c,iv 0])/\out.length=st.arrays.length/\rN st.arrays st.places out/\R (au gG) M w' out [.slice a n c]:=by
 have hmx:az=140737488355328:=rfl
 refine DH ⟨(gH h hd).mono ?_⟩
 rintro e w1 ⟨rfl,hw1⟩
 refine⟨_,rfl,hw1,fun hne=>⟨hw1,by rw[if_pos hne]⟩,fun hz=>?_⟩
 obtain⟨m,ra,rn,rc,qa,qn,qc,hI,hl,rfl⟩:=h
 have han:=hv.an
 have hpn:=hv.pn
 obtain⟨hrn,_,_⟩:=hI.arr.sl_len
 subst hrn
 have hsl:=ab hI.hs
 have ld:∀{w':World} (i:Nat) (v:Value),KpL [] w w'->[Value.pointer (some ⟨l,0,none⟩),iv st.id,.slice ra st.arrays.length rc,.map (some m),.slice qa qn qc,iv st.use][i]?=some v->ao w' ((⟨s,0,none⟩:Addr).add i) [v]:=by
  intro w' i v hk hv
  rw[al]
  refine ak ((hk.blk s hsl (by simp)).trans hI.hs) _ _ ?_
  apply List.ext_getElem?
  intro j
  cases j with
  |zero=>simpa using hv
  |succ j=>simp;omega
 obtain⟨arr,clock,hM0⟩:=hI.pls
 refine⟨_,_,_,ld 2 _ hw1 rfl,dT FM (by omega) (by omega) (by omega) fun w2 hb2 hw2=>⟨_,_,_,rfl,[],hw2,_,ld 3 _ (hw1.trans hw2) rfl,?_⟩⟩
 have hk02:=hw1.trans hw2
 have s1:=hw1.size
 generalize hcb:w1.heap.size=cb at *
 rw[Int.toNat_natCast]at hb2 ⊢
 have hcbl:=ab hb2
 have hM2:=hM0.step hk02 (by simp) (M':=s::l::(aj qa++M0)) fun b hb=>.inl hb
 refine rR qH hM2 fun w3 hit3 hw3=>⟨_,rfl,[],hw3,?_⟩
 generalize hitb:w2.heap.size=it at *
 have hk03:=hk02.trans hw3
 have hitl:=ab hit3.it
 have hBk3:lw [it] w3 cb 56 _ _:=lw.new (n:=st.arrays.length) ((hw3.blk cb (by omega) (by simp)).trans hb2) (by simpa using hitl) (by simp;omega)
 have e0:(List.range st.arrays.length).map (bj st.arrays (ck st.places []))=List.replicate st.arrays.length []:=by
  apply List.ext_getElem?
  intro i
  simp only[List.getElem?_map,List.getElem?_range,List.getElem?_replicate]
  split<;>rename_i hi
  ·rw[List.getElem?_range hi];simp[bj,ck]
  ·rw[List.getElem?_eq_none (by simp;omega)];rfl
 rw[<-e0]at hBk3
 refine⟨fun _ w'=>∃vis sl,Fm w it cb m arr clock st.arrays st.places vis sl w',fun _ w'=>zL it (st.places.length+1) w',⟨[],_,hit3,hk03,hBk3,fun i x hx b hb=>?_⟩,?_⟩
 ·rw[List.getElem?_replicate]at hx
  split at hx
  ·simp at hx;subst hx;simp[aj]at hb
  ·cases hx
 rintro w4 ⟨vis,sl,hit,hk4,hB,hnew⟩
 have s4:=hk4.size
 have itl:=ab hit.it
 have cbl:=ab hB.hb
 generalize hall_:(sl.flatMap fun x=>aj x.1)++[cb,it]++(s::l::(aj qa++M0))=Mb
 have hMk:∀{w':World},KpL [] w w'->fG Pl.enc jz Mb w' m st.places arr clock:=by
  intro w' hk
  refine hM0.step hk (by simp) fun b hb=>?_
  rw[<-hall_]at hb
  simp only[List.mem_append,List.mem_flatMap,List.mem_cons,List.not_mem_nil,or_false]at hb
  rcases hb with (⟨x,hx,hb⟩|rfl|rfl)|hb
  ·obtain⟨i,hi⟩:=List.mem_iff_getElem?.1 hx
   exact .inr (hnew i x hi b hb)
  ·exact .inr (by omega)
  ·exact .inr (by omega)
  ·exact .inl (by simpa using hb)
 have hM4:=hMk hk4
 have hal:arr.size=st.places.length:=hM4.len
 refine mL hM4 hit (fun hall w5 hk5 hh5=>.inl ⟨rfl,[],hk5,?_⟩) (fun i p cs w5 hiv hp hRp hit5 hk5=>.inr ?_)
 ·
  have hperm:=nV (l:=st.places) (kQ hit.nd (fun i hi=>by have:=hit.lt i hi;omega) hall)
  have hk05:=hk4.trans hk5
  have hB5:=hB.kp0 hk5
  have s5:=hk05.size
  refine⟨_,_,_,ld 2 _ hk05 rfl,fun vs w'=>∃(j:Nat) (out:List Nm) (a:Option Addr) (n c:Nat),vs=[.slice a n c,iv (j:Int)]/\j<=st.arrays.length/\KpL [] w5 w'/\bI gG M w' out a n c/\(∀b∈aj a,w5.heap.size<=b)/\out.length=j/\rN st.arrays st.places out,
   fun vs _=>match vs with|[_,.int _ i]=>st.arrays.length - i.toNat|_=>0,⟨0,[],none,0,0,rfl,by omega,KpL.refl _ _,bI.nil' _ (fun b hb=>by have:=hM b hb;omega),by simp[aj],rfl,fun i y hy=>by simp at hy⟩,?_⟩
  rintro a4 k7 k8 n2 w6 ⟨j,out,_,_,_,hvs,hj,hk6,hA6,hnew6,hol,hrel⟩
  simp only[List.cons.injEq,Value.int.injEq,Value.slice.injEq,true_and,and_true]at hvs
  obtain⟨⟨rfl,rfl,rfl⟩,rfl⟩:=hvs
  have hk06:=hk05.trans hk6
  have s6:=hk6.size
  constructor
  ·intro hlt
   have gj:j<st.arrays.length:=by omega
   have hR6:=hI.arr.kp0 hk06
   obtain⟨ad,cs,rfl,hv1,hld1,_,_⟩:=hR6.sl_get gj
   obtain⟨b1,p1,q1,b2,p2,q2,b3,p3,q3,rfl,hsz,hx1,hx2,hx3⟩:=hv1.nm
   have hxm:st.arrays[j]?=some st.arrays[j]:=List.getElem?_eq_getElem gj
   have hsch:=hv.sch _ (List.getElem_mem gj)
   generalize hxx:st.arrays[j]=x at *
   have hsj:j<sl.length:=by rw[hB5.len];simpa using gj
   have hslj:sl[j]?=some sl[j]:=List.getElem?_eq_getElem hsj
   have hcj:((List.range st.arrays.length).map (bj st.arrays (ck st.places vis)))[j]?=some (bj st.arrays (ck st.places vis) j):=by simp[List.getElem?_range gj]
   have hAj:=(hB5.acc j _ _ hslj hcj).kp0 hk6
   have hcl:(bj st.arrays (ck st.places vis) j).length<=4000:=by
    have h1:=List.length_filterMap_le (gq st.arrays j) (ck st.places vis)
    have h2:=hperm.length_eq
    unfold bj
    omega
   have hRj:=hAj.done (by have:=hAj.len;omega)
   have hld3:ao w6 ((⟨cb,0,none⟩:Addr).add (j*1)) [CQ sl[j]]:=by
    rw[al]
    refine ak ((hk6.blk cb (ab hB5.hb) (by simp)).trans hB5.hb) _ _ ?_
    apply List.ext_getElem?
    intro i
    cases i with
    |zero=>simp[hsj]
    |succ i=>simp;omega
   have hok:∀c∈bj st.arrays (ck st.places vis) j,cT x.arr.dims x.arr.attrs c=0:=wQ hv.sch (fun p hp=>hv.pls p (hperm.mem_iff.1 hp)) hxm
   have hnd:((bj st.arrays (ck st.places vis) j).map (·.at_)).Nodup:=zi (i:=j) hv.sch (fun p hp=>hv.pls p (hperm.mem_iff.1 hp)) (((hperm.map (·.1)).nodup_iff).2 hv.keys)
   have hpc:(bj st.arrays (ck st.places vis) j).Perm (bj st.arrays st.places j):=hperm.filterMap _
   have hlA:=hA6.len
   have mk:∀{wa:World} (E:List Nat),(∀b∈E,b<wa.heap.size)->KpL [] w6 wa->Calls Zz 69 #[.slice b1 p1 q1,.slice b2 p2 q2,CQ sl[j]] wa fun e w'=>∃b1 p1 q1 b2 p2 q2 b3 p3 q3 cells',e=.returned (.tuple #[.agg #[.slice b1 p1 q1,.slice b2 p2 q2,.slice b3 p3 q3],iv 0])/\KpL [] wa w'/\
    cells'.Perm (bj st.arrays (ck st.places vis) j)/\bq cells'/\R (au bY) (E++(aj a4++M)) w' x.arr.dims [.slice b1 p1 q1]/\R (au bw) (E++(aj a4++M)) w' x.arr.attrs [.slice b2 p2 q2]/\R (au aC) (E++(aj a4++M)) w' cells' [.slice b3 p3 q3]:=by
    intro wa E hE hka
    have sa:=hka.size
    exact wM (fun b hb=>by
     rcases List.mem_append.1 hb with hb|hb
     ·exact hE b hb
     rcases List.mem_append.1 hb with hb|hb
     ·have:=(hA6.blk_lt b hb).1;omega
     ·have:=hA6.mlt b hb;omega) (hx1.kp0 hka) (hx2.kp0 hka) (hRj.kp0 hka) hsch (by omega) hok hnd
   have next:∀{wb wc:World} {kx:Nat} {b1 b2 b3:Option Addr} {p1 q1 p2 q2 p3 q3:Nat} {cells':List aR},KpL [] w6 wb->cells'.Perm (bj st.arrays (ck st.places vis) j)->bq cells'->R (au bY) (aj a4++M) wb x.arr.dims [.slice b1 p1 q1]->R (au bw) (aj a4++M) wb x.arr.attrs [.slice b2 p2 q2]->R (au aC) (aj a4++M) wb cells' [.slice b3 p3 q3]->
    wb.heap[kx]?=some (.cells #[.string x.name,.slice b1 p1 q1,.slice b2 p2 q2,.slice b3 p3 q3] 60 (0,0))->∀{Q:Value->World->Prop},(∀a' c' w',KpL (aj a4) wb w'->(∃(j':Nat) (out:List Nm) (a:Option Addr) (n c:Nat),[Value.slice a' (k7+1) c',iv ((j:Int)+1)]=[.slice a n c,iv (j':Int)]/\j'<=st.arrays.length/\KpL [] w5 w'/\bI gG M w' out a n c/\(∀b∈aj a,w5.heap.size<=b)/\out.length=j'/\rN st.arrays st.places out)->Q (.slice a' (k7+1) c') w')->
    Ev Zz (Builtin.append_ #[23,23] 23 #[.slice a4 k7 k8,sK kx 1 1]) wb Q:=by
    intro wb wc kx b1 b2 b3 p1 q1 p2 q2 p3 q3 cells' hkb hpm hso h1 h2 h3 hbk Q hQ
    refine aD Bc (hA6.kp0 hkb) hbk (R.mkNm (c:=⟨x.name,⟨x.arr.dims,x.arr.attrs,cells'⟩⟩) hsz h1 h2 h3) (by omega) fun a' c' w' hC=>hQ a' c' w' hC.kp ⟨j+1,_,a',k7+1,c',rfl,by omega,?_,hC.acc,?_,by simp[hol],?_⟩
    ·exact(hk6.trans hkb).more hC.kp fun b hb=>.inr (hnew6 b hb)
    ·intro b hb
     rcases hC.own b hb with hb|hb
     ·exact hnew6 b hb
     ·have:=hkb.size;omega
    ·intro i y hy
     rw[List.getElem?_append]at hy
     split at hy
     ·exact hrel i y hy
     ·rename_i hge
      have hi:i=j:=by
       have:=(List.getElem?_eq_some_iff.1 hy).1
       simp at this
       omega
      subst hi
      rw[hol]at hy
      simp at hy
      subst hy
      exact⟨x,hxm,rfl,rfl,rfl,hpm.trans hpc,hso⟩
   refine⟨ad,rfl,by omega,hlt,_,_,_,_,_,_,_,_,_,_,hld1,fun k15 hk15=>⟨⟨cb,0,none⟩,rfl,by omega,hlt,_,_,_,hld3,fun w7 hw7 hkn7=>⟨(mk [] (by simp) hw7).mono ?_⟩,fun k28 hk28 w12 hw12 hkn12=>⟨(mk [k28] (by simpa using ab hkn12.1) hw12).mono ?_⟩⟩⟩
   ·rintro e w8 ⟨c1,p1',q1',c2,p2',q2',c3,p3',q3',cells',rfl,hw8,hpm,hso,h1,h2,h3⟩
    refine⟨_,_,_,_,_,_,_,_,_,_,rfl,hw8,fun k24 hk24=>⟨fun hc=>absurd rfl hc,fun _ k25 hk25 w10 hw10 hkn10=>?_⟩⟩
    have s7:=hw7.size
    have s8:=hw8.size
    refine next ((hw7.trans hw8).trans hw10) hpm hso (h1.kp0 hw10) (h2.kp0 hw10) (h3.kp0 hw10) hkn10.1 (wc:=w10) fun a' c' w' hkp hinv=>⟨_,_,_,rfl,_,hkp,⟨⟨fun hm=>by have:=(hA6.blk_lt _ hm).1;omega⟩,⟨fun hm=>by have:=(hA6.blk_lt _ hm).1;omega⟩,⟨fun hm=>by have:=(hA6.blk_lt _ hm).1;omega⟩⟩,ae.2 (by omega),fun _=>⟨hinv,by dsimp only;omega⟩⟩
   ·rintro e w13 ⟨c1,p1',q1',c2,p2',q2',c3,p3',q3',cells',rfl,hw13,hpm,hso,h1,h2,h3⟩
    have hk28l:=ab hkn12.1
    have s12:=hw12.size
    have s13:=hw13.size
    refine⟨_,_,_,_,_,_,_,_,_,_,rfl,hw13,fun hc=>absurd rfl hc,fun _ k35 hk35 w15 hw15 hkn15=>?_⟩
    have hk28M:k28∉aj a4++M:=fun hm=>by
     rcases List.mem_append.1 hm with hm|hm
     ·have:=(hA6.blk_lt _ hm).1;omega
     ·have:=hA6.mlt _ hm;omega
    have hk615:KpL [] w6 w15:=(hw12.trans hw13).more hw15 (by simp;omega)
    have up:∀{α:Type} {t:Ty α} {x:α} {cs:List Value},R t ([k28]++(aj a4++M)) w13 x cs->R t (aj a4++M) w15 x cs:=fun hr=>(hr.kp hw15 (by simp)).weak fun b hb=>by simp only[List.cons_append,List.nil_append,List.mem_cons];exact .inr hb
    refine next hk615 hpm hso (up h1) (up h2) (up h3) hkn15.1 (wc:=w15) fun a' c' w' hkp hinv=>⟨_,_,_,rfl,_,hkp,⟨⟨fun hm=>by have:=(hA6.blk_lt _ hm).1;omega⟩,⟨fun hm=>hk28M (List.mem_append_left _ hm)⟩,⟨fun hm=>by have:=(hA6.blk_lt _ hm).1;omega⟩⟩,ae.2 (by omega),fun _=>⟨hinv,by dsimp only;omega⟩⟩
  ·intro hge
   have hje:j=st.arrays.length:=by omega
   subst hje
   exact⟨hk06,by rw[if_neg hz];exact⟨out,a4,k7,k8,rfl,hol,hrel,hA6.done (by have:=hA6.len;omega)⟩⟩
 ·obtain⟨va,vn,vc,rfl,hbi,hRv⟩:=hRp.sta
  obtain⟨hil,rfl⟩:=List.getElem?_eq_some_iff.1 hp
  have hk05:KpL [] w w5:=hk4.more hk5 (by simp;omega)
  have s5:=hk05.size
  have hM5:=hMk hk05
  have hvl:vis.length+1<=st.places.length:=by
   have h1:=List.Nodup.length_le_of_subset hit5.nd (l₂:=List.range arr.size) (fun i hi=>List.mem_range.2 (hit5.lt i hi))
   simpa[hal]using h1
  have hat:ck st.places (vis++[i])=ck st.places vis++[st.places[i]]:=by unfold ck;rw[List.map_append];simp[hil]
  refine⟨_,_,_,_,_,_,_,_,_,rfl,[it],hk5,ke hM5 hit5 fun p' cs' hp' hRp'=>?_⟩
  rw[List.getElem?_eq_getElem hil,Option.some.injEq]at hp'
  subst hp'
  have hpo:=hv.pls _ (List.getElem_mem hil)
  have hkey:=hI.keys _ (List.getElem_mem hil)
  generalize st.places[i]=p at *
  obtain⟨va',vn',vc',rfl,_,hRv'⟩:=hRp'.sta
  obtain⟨hvn,_,_⟩:=hRv'.sl_len
  subst hvn
  obtain⟨g1,g2,g3,g4,g5,g6,g7,g8⟩:=hpo.dims hv.sch
  have ga0:=hpo.a0
  have mea:∀{w':World},ou w' it m arr clock (vis++[i])->zL it (st.places.length+1) w'<zL it (st.places.length+1) w4:=fun h=>by
   rw[wI h,wI hit];simp;omega
  refine⟨_,_,_,_,_,_,_,_,_,rfl,[],KpL.refl _ _,fun k42 hk42 k43 hk43=>⟨fun hpos=>?_,fun hnp w23 hw23 _=>?_⟩⟩
  ·obtain⟨x,hx,_⟩:=hpo.ex
   have hR5:=hI.arr.kp0 hk05
   obtain⟨ad,cs,rfl,hv1,_,_,_,hpt⟩:=hR5.sl_get2 g1
   have hxe:st.arrays[p.1.a.toNat]=x:=by rw[List.getElem?_eq_getElem g1]at hx;exact Option.some.inj hx
   rw[hxe]at hv1
   obtain⟨b1,p1,q1,b2,p2,q2,b3,p3,q3,rfl,hsz,hx1,hx2,hx3⟩:=hv1.nm
   obtain⟨hp1,_,_⟩:=hx1.sl_len
   have hnd:cY st.arrays p.1.a=x.arr.dims.length:=by unfold cY;rw[hx]
   have hsj:p.1.a.toNat<sl.length:=by rw[hB.len];simpa using g1
   have hslj:sl[p.1.a.toNat]?=some sl[p.1.a.toNat]:=List.getElem?_eq_getElem hsj
   have hcj:((List.range st.arrays.length).map (bj st.arrays (ck st.places vis)))[p.1.a.toNat]?=some (bj st.arrays (ck st.places vis) p.1.a.toNat):=by simp[List.getElem?_range g1]
   have hB5:=hB.kp hk5 (by simp)
   have hld3:ao w5 ((⟨cb,0,none⟩:Addr).add (p.1.a.toNat*1)) [CQ sl[p.1.a.toNat]]:=by
    rw[al]
    refine ak hB5.hb _ _ ?_
    apply List.ext_getElem?
    intro i
    cases i with
    |zero=>simp[hsj]
    |succ i=>simp;omega
   have hxn:=hnew _ _ hslj
   generalize sl[p.1.a.toNat]=xs at *
   obtain⟨xa,xn,xc⟩:=xs
   have hps:=iF (P:=Zz) (at_:=141) ry (sz:=1) s3 (ad:=⟨k42,0+1,none⟩) (l:=0) (h:=p1) (lo:=none) (hi:=some (iv (p1:Int))) (.inr ⟨rfl,rfl⟩) (.inl rfl) (by omega) (by omega)
   refine⟨_,_,_,ld 2 _ hk05 rfl,ad,rfl,ga0,by omega,b1,p1,q1,by rw[rP];exact hpt 1 [_] rfl,⟨cb,0,none⟩,rfl,ga0,by omega,xa,xn,xc,hld3,_,_,_,hps,fun w18 hw18 hkn18=>?_⟩
   have s18:=hw18.size
   have hk018:=hk05.trans hw18
   have hRco:R (au (tI .i64)) [] w18 (p.1.co.take x.arr.dims.length) [.slice (some ((⟨k42,0+1,none⟩:Addr).add (0*1))) p1 (4 - 0)]:=by
    have hh:=(R.co (p:=p.1) hkn18.2 hkey).sub 0 p1 (by omega) (by omega)
    rw[List.drop_zero,Nat.sub_zero,Nat.sub_zero,hp1]at hh
    rw[hp1]
    simpa using hh
   have hA18:=(hB5.acc _ _ _ hslj hcj).kp0 hw18
   have hMl:∀b∈aj xa++(CJ sl p.1.a.toNat++cb::[it]),b<w18.heap.size:=by
    intro b hb
    rcases List.mem_append.1 hb with hb|hb
    ·exact(hA18.blk_lt b hb).1
    ·exact hA18.mlt b hb
   refine⟨(nr (M:=aj xa++(CJ sl p.1.a.toNat++cb::[it])) hMl (by omega) hRco).mono ?_⟩
   rintro e w19 ⟨a23,n23,c23,rfl,hV⟩
   have hRat:=hV.acc.done (by have:=hV.acc.len;simp[Pl.co]at this;omega)
   refine⟨_,_,_,rfl,hV.kpn,fun k54 hk54 w20 hw20 hkn20=>?_⟩
   have hk1820:=hV.kpn.trans hw20
   have s20:=hk1820.size
   have hk520:=hw18.trans hk1820
   have hB20:=hB5.kp0 hk520
   have hvals:R (au cv) (aj xa++(CJ sl p.1.a.toNat++cb::[it])) w20 p.2.vals [.slice va' p.2.vals.length vc']:=by
    refine(hRv'.kp0 hk520).weak fun b hb=>?_
    refine List.mem_cons_of_mem _ ?_
    rw[<-hall_]
    simp only[List.mem_append,List.mem_flatMap,List.mem_cons,List.not_mem_nil,or_false]at hb ⊢
    rcases hb with hb|hb|hb
    ·exact .inl (.inl ⟨_,List.mem_of_getElem? hslj,hb⟩)
    ·obtain⟨k,z,_,hz,hbz⟩:=gR.1 hb
     exact .inl (.inl ⟨z,List.mem_of_getElem? hz,hbz⟩)
    ·exact .inl (.inr hb)
   have hA20:=hB20.acc _ _ _ hslj hcj
   have hlA:=hA20.len
   have hcl:(bj st.arrays (ck st.places vis) p.1.a.toNat).length<=4000:=by
    have h1:=List.length_filterMap_le (gq st.arrays p.1.a.toNat) (ck st.places vis)
    unfold bj
    unfold ck at h1 ⊢
    rw[List.length_map]at h1
    omega
   have hxb:=hB20.blk_lt hslj
   refine aD Bo hA20 hkn20.1 (R.mkCell (c:=⟨p.1.co.take x.arr.dims.length,p.2.vals⟩) (hRat.kp0 hw20) hvals) (by dsimp only at hlA ⊢;omega) fun a24 c24 w21 hC=>⟨_,_,_,rfl,_,hC.kp,⟨⟨fun hm=>?_⟩,⟨fun hm=>?_⟩,⟨fun hm=>?_⟩⟩,fun hkn21=>⟨⟨ak hkn21.2.2 0 [_] rfl,trivial⟩,⟨cb,0,none⟩,rfl,ga0,by omega,fun _=>?_⟩⟩
   ·have:=(hA18.blk_lt _ hm).1;have:=hV.kpn.size;omega
   ·have:=(hB5.blk_lt hslj _ hm).1;omega
   ·have:=(hB5.blk_lt hslj _ hm).1;omega
   obtain⟨t1,t2,t3,t4,t5⟩:=hB20.set (y:=(a24,xn+1,c24)) hslj hcj hC
   have hcbs:cb<w5.heap.size:=ab hB5.hb
   have s19:=hV.kpn.size
   refine⟨t4,t5,⟨⟨by rw[al];simp;omega⟩,⟨by rw[al];simp;omega⟩,⟨by rw[al];simp;omega⟩⟩,?_⟩
   rintro w22 rfl _
   have hit22:=((hit5.keep hk520 (by simp)).keep hC.kp (fun hm=>(hxb it hm).2.2 (by simp))).keep t3 (by simp;omega)
   refine⟨⟨vis++[i],sl.set p.1.a.toNat (a24,xn+1,c24),hit22,?_,?_,?_⟩,mea hit22⟩
   ·exact((hk05.trans hk520).more hC.kp fun b hb=>.inr (hxn b hb)).more t3 (by simp;omega)
   ·have e1:(List.range st.arrays.length).map (bj st.arrays (ck st.places (vis++[i])))=((List.range st.arrays.length).map (bj st.arrays (ck st.places vis))).set p.1.a.toNat (bj st.arrays (ck st.places vis) p.1.a.toNat++[⟨p.1.co.take x.arr.dims.length,p.2.vals⟩]):=by
     apply List.ext_getElem?
     intro j
     rw[List.getElem?_set,hat]
     by_cases hj:p.1.a.toNat=j
     ·subst hj
      rw[if_pos rfl,if_pos (by simpa using g1)]
      simp only[List.getElem?_map,List.getElem?_range g1,Option.map_some,Option.some.injEq]
      rw[jZ]
      congr 1
      unfold gq
      rw[if_pos ⟨by omega,by omega⟩,hnd]
      rfl
     ·rw[if_neg hj]
      simp only[List.getElem?_map]
      by_cases hjl:j<st.arrays.length
      ·simp only[List.getElem?_range hjl,Option.map_some,Option.some.injEq]
       rw[jZ]
       unfold gq
       rw[if_neg (by omega)]
       simp
      ·rw[List.getElem?_eq_none (by simp;omega)];rfl
    rw[e1]
    exact t1
   ·intro j z hz b hb
    rw[List.getElem?_set]at hz
    by_cases hj:p.1.a.toNat=j
    ·rw[if_pos hj]at hz
     have hz':(a24,xn+1,c24)=z:=by
      subst hj
      rw[if_pos hsj]at hz
      exact Option.some.inj hz
     subst hz'
     rcases hC.own b hb with hb|hb
     ·exact hxn b hb
     ·have:=hk520.size;omega
    ·rw[if_neg hj]at hz
     exact hnew j z hz b hb
  ·have hit23:=hit5.keep hw23 (by simp)
   refine⟨⟨vis++[i],sl,hit23,hk05.trans hw23,?_,hnew⟩,mea hit23⟩
   have e1:(List.range st.arrays.length).map (bj st.arrays (ck st.places (vis++[i])))=(List.range st.arrays.length).map (bj st.arrays (ck st.places vis)):=by
    apply List.map_congr_left
    intro j _
    rw[hat,jZ]
    unfold gq
    rw[if_neg (by omega)]
    simp
   rw[e1]
   exact(hB.kp hk5 (by simp)).kp0 hw23
end Go.Vc
namespace Go.Vc
open Go Go.Proofs
def Dk.zeroL:Nat->Nat->Dk->Int×Dk
 |0,_,k=>k.sync
 |f+1,i,k=>if (k.write i bK).1≠0 then k.write i bK else Dk.zeroL f (i+1) (k.write i bK).2
def Dk.zero(k:Dk):Int×Dk:=Dk.zeroL k.n 0 k
theorem A9{M F:List Nat}{w:World}{d v:Nat}{k:Dk}(h:bz M w d k F)(hv:w.heap[v]?=some (.cells #[pK d] 40 (0,0)))(hvM:v∈M)(hpl:k.pend.length<=1000000):
 Calls Zz 79 #[pK v] w fun e w'=>e=.returned (iv k.zero.1)/\gp M F w d k.zero.2 w':=by
 obtain⟨s,hs1,hs2,hs3,hs4⟩:=h.ok.secs
 refine BS hv fun _=>⟨(f7 h).mono ?_⟩
 rintro e w1 ⟨rfl,hw1⟩
 have esec:k.secs=k.n:=rfl
 rw[esec]
 refine⟨_,rfl,hw1,fun vs w'=>∃(i:Nat),∃k' F',vs=[iv (i:Int)]/\i<=k.n/\bz M w' d k' F'/\ci F w F' w'/\k'.n=k.n/\k'.pend.length<=1000000+i/\Dk.zeroL (k.n - i) i k'=k.zero,
  fun vs _=>match vs with|[.int _ i]=>k.n - i.toNat|_=>0,fun _=>⟨0,k,F,rfl,by omega,h.kp0 hw1,ci.of0 hw1,rfl,by omega,rfl⟩,?_⟩
 rintro n2 w2 ⟨i,k1,F1,hvs,hi,hD1,hO1,hn1,hp1,he1⟩
 simp only[List.cons.injEq,Value.int.injEq,true_and,and_true]at hvs
 subst hvs
 have hsc:=hD1.ok.secs
 constructor
 ·intro hlt w3 hw3 hkn3
  have e1:k.n - i=(k.n - (i+1))+1:=by omega
  rw[e1,Dk.zeroL]at he1
  have s3:=hw3.size
  refine dT B7 (by omega) (by omega) (by omega) fun w4 hb4 hw4=>⟨_,_,_,rfl,[],hw4,⟨by simp⟩,fun hkn4=>⟨⟨ak hkn4 0 [_] rfl,trivial⟩,fun _=>?_⟩⟩
  have hk24:=hw3.trans hw4
  have hD4:=hD1.kp0 hk24
  have hzb:w4.heap[w3.heap.size]?=some (.cells ((bK.map (Value.int .u8))++[]).toArray 5 (0,0)):=by simpa[bK]using hb4
  have hR:R (au (tI .u8)) (F1++[]) w4 bK [.slice (some ⟨w3.heap.size,0,none⟩) 64 64]:=R.ofBlk (bs:=bK) (c:=64) hzb (by simp;intro hm;have:=(hD1.own_lt _ hm).1;omega) (by intro x hx;simp[bK]at hx;subst hx;exact bC.2 (by omega)) (by simp[bK]) (by simp[bK,az])
  refine⟨(ft hD4 (by omega) (i:=i) (b:=bK) (by obtain⟨s',g1,g2,g3,g4⟩:=hsc;omega) hR).mono ?_⟩
  rintro e w5 ⟨rfl,F2,hD5,hO5⟩
  refine⟨_,rfl,_,hO5.kp,hD4.out hvM,fun hne _=>?_,fun hz=>⟨ae.2 (by omega),fun _=>⟨⟨i+1,_,F2,rfl,by omega,hD5,(hO1.kp0 hk24).trans hO5,(Dk.write_n _ _ _).trans hn1,?_,?_⟩,by dsimp only;omega⟩⟩⟩
  ·rw[if_pos hne]at he1
   rw[<-he1]
   exact⟨rfl,F2,hD5,(hO1.kp0 hk24).trans hO5⟩
  ·have:=Dk.write_pend k1 i bK;omega
  ·rw[if_neg hz]at he1;exact he1
 ·intro hge hkn2
  have hie:i=k.n:=by omega
  subst hie
  rw[Nat.sub_self,Dk.zeroL]at he1
  refine⟨(iV hD1 (by omega)).mono ?_⟩
  rintro e w6 ⟨rfl,F2,hD6,hO6⟩
  refine⟨_,rfl,_,hO6.kp,hD1.out hvM,fun _=>?_⟩
  rw[<-he1]
  exact⟨rfl,F2,hD6,hO1.trans hO6⟩
def Dk.fmt(k:Dk)(b:List Int):Int×Dk :=
 if k.zero.1≠0 then k.zero
 else if (k.zero.2.add 1 0 1 b).1≠0 then k.zero.2.add 1 0 1 b
 else (k.zero.2.add 1 0 1 b).2.note 1
theorem zP{M F Fd:List Nat}{w:World}{s l d vd vs kf:Nat}{st:bg}{k:Dk}(h:bU M w s l d 1 0 st k F Fd)(hv:dy st)(hpl:k.pend.length<=900000)(hX:∀x∈[kf,vd,vs],x∈M)
 (hA:∀ps',ps'.Perm st.places->k.zero.1=0->gz k.zero.2 1 0 1 (ap st.arrays st.batches ps'))
 (hT:∀ps',ps'.Perm st.places->k.zero.1=0->(k.zero.2.add 1 0 1 (ap st.arrays st.batches ps')).1=0->(k.zero.2.add 1 0 1 (ap st.arrays st.batches ps')).2.pend.length<=1000000)
 (hf:w.heap[kf]?=some (.cells #[.func (.func 79) #[] #[pK vd],.func (.func 81) #[] #[pK vs],.func (.func 60) #[pK l] #[]] 49 (0,0)))
 (hvd:w.heap[vd]?=some (.cells #[pK d] 40 (0,0)))(hvs:w.heap[vs]?=some (.cells #[pK s] 41 (0,0))):
 Calls Zz 55 #[sK kf 3 3] w fun e w'=>∃ps',ps'.Perm st.places/\e=.returned (iv (k.fmt (ap st.arrays st.batches ps')).1)/\∃Fd' nxt',bU M w' s l d 1 nxt' st (k.fmt (ap st.arrays st.batches ps')).2 F Fd'/\ci (F++Fd) w (F++Fd') w'/\((k.fmt (ap st.arrays st.batches ps')).1=0->nxt'=0+1+aG (ap st.arrays st.batches ps')):=by
 have hMl:=h.mlt
 have hFn:∀x∈[kf,vd,vs],x∉F++Fd:=fun x hx hm=>(h.own_lt x hm).2 (hX x hx)
 have hlF:=h.sto.lF
 have hlD:l∈F++M:=List.mem_append_left _ hlF
 have hXD:∀x∈[kf,vd,vs],x∈F++M:=fun x hx=>List.mem_append_right _ (hX x hx)
 have hXl:∀x∈[kf,vd,vs],x≠l:=fun x hx e=>hFn x hx (List.mem_append_left _ (e▸hlF))
 have hl:=h.sto.log
 refine qR (b:=kf) (fs:=[(79,#[],#[pK vd]),(81,#[],#[pK vs]),(60,#[pK l],#[])]) (T:=49) hf (by simp) (c:=3) ?_
 refine⟨⟨_,_,Tryz.func79,rfl⟩,⟨(A9 h.dk hvd (hXD vd (by simp)) (by omega)).mono ?_⟩⟩
 rintro e w1 ⟨rfl,Fd1,hD1,hO1⟩
 have own3:∀{wa wb:World} {Fa Fb:List Nat},ci Fa wa Fb wb->ci (l::Fa) wa (l::Fb) wb:=fun ho=>⟨ho.kp.mono (by intro x hx;simp[hx]),fun x hx=>(List.mem_cons.1 hx).elim (fun h=>.inl (by simp[h])) fun hx=>(ho.new x hx).imp (fun h=>by simp[h]) id⟩
 have hl1:=hl.keep hO1.kp (h.dk.out hlD).no
 obtain⟨Fd1',h1,ho1⟩:=h.logTo (nxt':=0) (num':=1) ⟨Fd1,hD1,own3 hO1,hl1⟩
 have kp1:=hO1.kp
 have no1:∀x∈[kf,vd,vs],x∉Fd:=fun x hx hm=>hFn x hx (List.mem_append_right _ hm)
 clear hD1 hO1
 refine⟨_,_,rfl,kp1,⟨no1 kf (by simp)⟩,fun hne=>?_,fun hz=>?_⟩
 ·have e1:k.fmt (ap st.arrays st.batches st.places)=k.zero:=by unfold Dk.fmt;rw[if_pos hne]
  exact⟨st.places,List.Perm.refl _,by rw[e1],Fd1',0,by rw[e1];exact h1,ho1,fun hc=>absurd (by rw[<-e1];exact hc) hne⟩
 have hvs1:w1.heap[vs]?=_:=(kp1.blk vs (ab hvs) (no1 vs (by simp))).trans hvs
 have hs1:ao w1 ((⟨s,0,none⟩:Addr).add 0) [pK l]:=by
  obtain⟨m,ra,rn,rc,qa,qn,qc,hI,_,_⟩:=h1.sto
  rw[al];exact ak hI.hs 0 [_] rfl
 refine⟨⟨_,_,Tryz.func81,rfl⟩,⟨Bs hvs1 ⟨_,hs1,fun w2 hw2 hkn2=>⟨(tl (N:=l::Fd1') (fun x hx=>?_) ((h1.kp0 hw2).sto.weak (by simp)) (hv.stoOk (List.Perm.refl _))).mono ?_⟩⟩⟩⟩
 ·have:=hw2.size
  rcases List.mem_cons.1 hx with rfl|hx
  ·have:=(h1.sto.own_lt _ h1.sto.lF).1;omega
  ·have:=(h1.dk.own_lt x hx).1;omega
 rintro e w3 ⟨ps',hperm,hsorted,a,n,c,rfl,hV⟩
 have hk13:KpL [] w1 w3:=hw2.trans hV.kpn
 have ho:=hA ps' hperm hz
 have hlen:=hV.acc.len
 have hlb:(ap st.arrays st.batches ps').length<=1000000:=by
  have h1':=ho.fit
  have h2:=k.zero.2.half_le
  obtain⟨ss,g1,g2,g3⟩:=h1.dk.ok.secs
  unfold aG at h1'
  omega
 have hRb:=hV.acc.done (by have:az=140737488355328:=rfl;omega)
 have h3:=h1.kp0 hk13
 have hl3:=h3.sto.log
 refine⟨_,_,_,rfl,hV.kpn,fun hkn3=>⟨(rf h3.dk hl3 hlD hRb (bC.2 (by omega)) ho.n2 (by omega) ho.fit ho.pl ho.ps ho.ps2).mono ?_⟩⟩
 rintro e w4 ⟨rfl,hT2⟩
 have kp4:KpL (l::Fd1') w3 w4:=by obtain⟨_,_,hO,_⟩:=hT2;exact hO.kp
 obtain⟨Fd2,h4,ho4⟩:=h3.logTo hT2
 have ho04:=(ho1.kp0 hk13).trans ho4
 have no4:∀x∈[kf,vd,vs],af x (l::Fd1'):=fun x hx=>⟨fun hm=>(List.mem_cons.1 hm).elim (hXl x hx) fun hm=>(h1.dk.own_lt x hm).2 (hXD x hx)⟩
 refine⟨_,rfl,_,kp4,no4 vs (by simp),fun hkn4=>⟨_,_,rfl,(hk13.mono (by simp)).trans kp4,no4 kf (by simp),fun hne=>?_,fun hz2=>?_⟩⟩
 ·have e1:k.fmt (ap st.arrays st.batches ps')=k.zero.2.add 1 0 1 (ap st.arrays st.batches ps'):=by unfold Dk.fmt;rw[if_neg (by simp[hz]),if_pos hne]
  exact⟨ps',hperm,by rw[e1],Fd2,_,by rw[e1];exact h4,ho04,fun hc=>absurd (by rw[<-e1];exact hc) hne⟩
 have hl4:=h4.sto.log
 refine⟨⟨_,_,Tryz.func60,rfl⟩,⟨(rX h4.dk hl4 hlD (by rw[Dk.add_n];exact ho.n2) (by omega) (hT ps' hperm hz hz2)).mono ?_⟩⟩
 rintro e w5 ⟨rfl,Fd3,hD5,hO5⟩
 have kp5:=hO5.kp
 obtain⟨Fd3',h5,ho5⟩:=h4.logTo ⟨Fd3,hD5,own3 hO5,hl4.keep hO5.kp (h4.dk.out hlD).no⟩
 have e1:k.fmt (ap st.arrays st.batches ps')=(k.zero.2.add 1 0 1 (ap st.arrays st.batches ps')).2.note 1:=by unfold Dk.fmt;rw[if_neg (by simp[hz]),if_neg (by simp[hz2])]
 have fin:∀n:Int,n=(k.fmt (ap st.arrays st.batches ps')).1->∃ps',ps'.Perm st.places/\Ending.returned (iv n)=.returned (iv (k.fmt (ap st.arrays st.batches ps')).1)/\∃Fd' nxt',bU M w5 s l d 1 nxt' st (k.fmt (ap st.arrays st.batches ps')).2 F Fd'/\ci (F++Fd) w (F++Fd') w5/\
  ((k.fmt (ap st.arrays st.batches ps')).1=0->nxt'=0+1+aG (ap st.arrays st.batches ps')):=fun n hn=>⟨ps',hperm,by rw[hn],Fd3',_,by rw[e1];exact h5,ho04.trans ho5,fun _=>by rw[if_pos hz2]⟩
 refine⟨_,_,rfl,kp5,(h4.dk.out (hXD kf (by simp))),fun hne=>fin _ (by rw[e1]),fun hz3=>?_⟩
 exact fin 0 (by rw[e1];exact hz3.symm)
end Go.Vc
namespace Go.Vc
open Go Go.Proofs
theorem oU{x y z:List Int}(h1:aY x y<0)(h2:aY y z<0):aY x z<0:=by
 have h3:=eF (x:=x) (y:=y) (z:=z) (by omega) (by omega)
 rcases iH x z with h|h|h
 ·omega
 ·have e:=bB.1 h
  subst e
  have:=cz x y
  omega
 ·omega
theorem mh{ds:List dI}{ats:List cI}:∀{l:List aR} {p:Option aR},cX ds ats p l=0->(∀c∈l,cT ds ats c=0)/\bq l/\∀q,p=some q->∀c∈l,aY q.at_ c.at_<0
 |[],_,_=>⟨by simp,List.Pairwise.nil,by simp⟩
 |c::r,none,h=>by
  rw[cX]at h
  split at h
  ·omega
  rename_i hc
  obtain⟨h1,h2,h3⟩:=mh h
  exact⟨fun d hd=>(List.mem_cons.1 hd).elim (fun e=>by rw[e];omega) (h1 d),List.Pairwise.cons (h3 c rfl) h2,fun _ h=>by cases h⟩
 |c::r,some p,h=>by
  rw[cX]at h
  split at h
  ·omega
  rename_i hc
  split at h
  ·cases h
  rename_i h0
  split at h
  ·cases h
  rename_i h1'
  obtain⟨h1,h2,h3⟩:=mh h
  have hlt:aY p.at_ c.at_<0:=by rcases iH p.at_ c.at_ with h|h|h<;>omega
  refine⟨fun d hd=>(List.mem_cons.1 hd).elim (fun e=>by rw[e];omega) (h1 d),List.Pairwise.cons (h3 c rfl) h2,fun q hq d hd=>?_⟩
  simp only[Option.some.injEq]at hq
  subst hq
  rcases List.mem_cons.1 hd with rfl|hd
  ·exact hlt
  ·exact oU hlt (h3 c rfl d hd)
theorem dQ{x:zj}(h:oV x=0):aV x.dims x.attrs=0/\x.cells.length<=4096/\(∀c∈x.cells,cT x.dims x.attrs c=0)/\bq x.cells:=by
 unfold oV at h
 split at h
 ·omega
 split at h
 ·cases h
 obtain⟨h1,h2,_⟩:=mh h
 exact⟨by omega,by omega,h1,h2⟩
theorem AI:∀{db:List Nm} {met:List ByteArray},xR met db=0->(∀x∈db,bx x.name=true/\oV x.arr=0/\x.name∉met)/\(db.map (·.name)).Nodup
 |[],_,_=>⟨by simp,by simp⟩
 |x::r,met,h=>by
  rw[xR]at h
  split at h
  ·cases h
  rename_i h1
  split at h
  ·cases h
  rename_i h2
  obtain⟨h3,h4⟩:=AI h
  simp only[not_or]at h1
  refine⟨fun y hy=>?_,?_⟩
  ·rcases List.mem_cons.1 hy with rfl|hy
   ·exact⟨by simpa using h1.1,by omega,h1.2⟩
   ·have:=h3 y hy
    exact⟨this.1,this.2.1,fun hm=>this.2.2 (by simp[hm])⟩
  ·rw[List.map_cons,List.nodup_cons]
   refine⟨fun hm=>?_,h4⟩
   obtain⟨y,hy,he⟩:=List.mem_map.1 hm
   exact(h3 y hy).2.2 (by simp[he])
theorem lJ{db:List Nm}(h:mn db=0):db.length<=16/\(∀x∈db,bx x.name=true/\oV x.arr=0)/\(db.map (·.name)).Nodup:=by
 unfold mn at h
 split at h
 ·cases h
 obtain⟨h1,h2⟩:=AI h
 exact⟨by omega,fun x hx=>⟨(h1 x hx).1,(h1 x hx).2.1⟩,h2⟩
theorem gI{ds:List dI}{ats:List cI}{c:aR}(h:cT ds ats c=0):c.at_.length=ds.length/\c.vals.length=ats.length/\lU ds c.at_=true/\cH ats c.vals=true:=by
 unfold cT at h
 split at h
 ·cases h
 rename_i h1
 split at h
 ·cases h
 rename_i h2
 split at h
 ·cases h
 rename_i h3
 simp only[not_or,Decidable.not_not]at h1
 exact⟨h1.1,h1.2,by simpa using h2,by simpa using h3⟩
def aB(x:Nm):Nm:=⟨x.name,⟨x.arr.dims,x.arr.attrs,[]⟩⟩
def ff(i:Nat)(l:List aR):List (Pl×dE):=l.map fun c=>(be i c.at_,⟨0,c.vals⟩)
def aO:Nat->List Nm->List (Pl×dE)
 |_,[]=>[]
 |i,x::r=>ff i x.arr.cells++aO (i+1) r
theorem jd:∀(i:Nat) (l m:List Nm),aO i (l++m)=aO i l++aO (i+l.length) m
 |i,[],m=>by simp[aO]
 |i,x::r,m=>by
  simp only[List.cons_append,aO,jd (i+1) r m,List.append_assoc,List.length_cons]
  congr 3
  omega
theorem lf:∀{i:Nat} {l:List Nm} {p:Pl×dE},p∈aO i l->∃j x c,l[j]?=some x/\c∈x.arr.cells/\p=(be (i+j:Nat) c.at_,⟨0,c.vals⟩)
 |_,[],_,h=>by simp[aO]at h
 |i,x::r,p,h=>by
  rw[aO,List.mem_append]at h
  rcases h with h|h
  ·obtain⟨c,hc,rfl⟩:=List.mem_map.1 h
   exact⟨0,x,c,rfl,hc,rfl⟩
  ·obtain⟨j,y,c,h1,h2,h3⟩:=lf h
   exact⟨j+1,y,c,by simpa using h1,h2,by rw[h3];congr 3;omega⟩
theorem gK{a:Int}{x y:List Int}(h:be a x=be a y)(hl:x.length=y.length)(hn:x.length<=4):x=y:=by
 unfold be at h
 simp only[Pl.mk.injEq,true_and]at h
 obtain⟨h0,h1,h2,h3⟩:=h
 apply List.ext_getElem hl
 intro i hi1 hi2
 have g:∀(z:List Int) (hz:i<z.length),z.getD i 0=z[i]:=fun z hz=>by simp[List.getD_eq_getElem?_getD,hz]
 rw[<-g x hi1,<-g y hi2]
 match i,(by omega:i<4) with
 |0,_=>exact h0
 |1,_=>exact h1
 |2,_=>exact h2
 |3,_=>exact h3
theorem kr:∀{i:Nat} {l:List Nm},(∀x∈l,oV x.arr=0)->((aO i l).map (·.1)).Nodup
 |_,[],_=>by simp[aO]
 |i,x::r,h=>by
  rw[aO,List.map_append,List.nodup_append]
  refine⟨?_,kr fun y hy=>h y (by simp[hy]),?_⟩
  ·obtain⟨hs,_,hc,hso⟩:=dQ (h x (by simp))
   have hd:=dN (cS hs).1
   have e:(ff i x.arr.cells).map (·.1)=x.arr.cells.map fun c=>be i c.at_:=by simp[ff]
   rw[e,List.nodup_iff_pairwise_ne,List.pairwise_map]
   refine List.Pairwise.imp_of_mem ?_ hso
   intro c c' hcm hcm' hlt he
   have l1:=(gI (hc c hcm)).1
   have l2:=(gI (hc c' hcm')).1
   have:=gK he (by omega) (by omega)
   rw[this]at hlt
   have:=bB.2 (rfl:c'.at_=c'.at_)
   omega
  ·intro a ha b hb hab
   subst hab
   obtain⟨p,hp,rfl⟩:=List.mem_map.1 ha
   obtain⟨q,hq,he⟩:=List.mem_map.1 hb
   obtain⟨c,_,rfl⟩:=List.mem_map.1 hp
   obtain⟨j,y,c',_,_,rfl⟩:=lf hq
   have:=congrArg Pl.a he
   simp only[be]at this
   omega
def aU(db:List Nm):bg:=bG (db.map aB) [] (aO 0 db)
theorem pf{db:List Nm}(h:mn db=0)(hne:db.length≠0)(hp:(aO 0 db).length<=4000):dy (aU db):=by
 obtain⟨h1,h2,h3⟩:=lJ h
 refine⟨?_,?_,?_,?_,?_,?_,?_,?_,?_,hp,?_,kr fun x hx=>(h2 x hx).2,?_,?_⟩
 ·show 1<=(db.map aB).length;simp;omega
 ·show(db.map aB).length<=16;simp;omega
 ·intro x hx
  obtain⟨y,hy,rfl⟩:=List.mem_map.1 (show x∈db.map aB from hx)
  exact(h2 y hy).1
 ·show((db.map aB).map (·.name)).Nodup
  rw[List.map_map]
  exact h3
 ·intro x hx
  obtain⟨y,hy,rfl⟩:=List.mem_map.1 (show x∈db.map aB from hx)
  exact(dQ (h2 y hy).2).1
 ·intro x hx
  obtain⟨y,hy,rfl⟩:=List.mem_map.1 (show x∈db.map aB from hx)
  rfl
 ·show(0:Nat)<=_;omega
 ·intro x hx;exact absurd hx (by show x∉([]:List bH);simp)
 ·show(([]:List bH).map (·.token)).Nodup;simp
 ·intro p hpm
  obtain⟨j,x,c,hx,hc,rfl⟩:=lf (show p∈aO 0 db from hpm)
  have hxo:=dQ (h2 x (List.mem_of_getElem? hx)).2
  obtain⟨c1,c2,c3,c4⟩:=gI (hxo.2.2.1 c hc)
  refine⟨by show(0:Int)<=((0+j:Nat):Int);omega,⟨aB x,?_,⟨c.at_,c1,c3,rfl⟩,c4,.inr c2⟩,by show(0:Int)<=0;omega,by show(0:Int)<=_;omega⟩
  show(db.map aB)[((0+j:Nat):Int).toNat]?=_
  rw[show((0+j:Nat):Int).toNat=j from by omega,List.getElem?_map,hx]
  rfl
 ·show(0:Int)<=1+8*((db.map aB).length:Int)+3*((aO 0 db).length:Int)+(([]:List bH).length:Int);omega
 ·show 1+8*((db.map aB).length:Int)+3*((aO 0 db).length:Int)+(([]:List bH).length:Int)<=100000
  simp only[List.length_map,List.length_nil]
  omega
end Go.Vc
namespace Go.Vc
open Go Go.Proofs
set_option maxHeartbeats 8000000 in
theorem uy{M Mdb Fd:List Nat}{w:World}{d:Nat}{k:Dk}{db:List Nm}{dba:Option Addr}{dbn dbc:Nat}(h:bz M w d k Fd)(hd:R (au gG) Mdb w db [.slice dba dbn dbc])(hp:(aO 0 db).length<=4000)(hpl:k.pend.length<=900000)(h2:2<=k.n)
 (hA:mn db=0->db.length≠0->k.down=false->(aU db).use<=k.half->∀ps',ps'.Perm (aO 0 db)->(k.zero.1=0->gz k.zero.2 1 0 1 (ap (db.map aB) [] ps'))/\(k.zero.1=0->(k.zero.2.add 1 0 1 (ap (db.map aB) [] ps')).1=0->(k.zero.2.add 1 0 1 (ap (db.map aB) [] ps')).2.pend.length<=1000000)/\ar .i64 ((k.fmt (ap (db.map aB) [] ps')).2.st+1)):
 Calls Zz 20 #[pK d,.slice dba dbn dbc] w fun e w' =>
  if mn db≠0∨db.length=0 then e=.returned (.tuple #[.pointer none,iv 2])/\KpL [] w w'
  else if k.down=true then e=.returned (.tuple #[.pointer none,iv 17])/\KpL [] w w'
  else if (k.half:Int)<(aU db).use then e=.returned (.tuple #[.pointer none,iv 18])/\KpL [] w w'
  else ∃ps',ps'.Perm (aO 0 db)/\if (k.fmt (ap (db.map aB) [] ps')).1≠0 then e=.returned (.tuple #[.pointer none,iv (k.fmt (ap (db.map aB) [] ps')).1])/\∃Fd',bz M w' d (k.fmt (ap (db.map aB) [] ps')).2 Fd'/\ci Fd w Fd' w'
   else ∃s l F Fd',e=.returned (.tuple #[pK s,iv 0])/\bU M w' s l d 1 (0+1+aG (ap (db.map aB) [] ps')) { aU db with id:=(k.fmt (ap (db.map aB) [] ps')).2.st+1 } { (k.fmt (ap (db.map aB) [] ps')).2 with st:=(k.fmt (ap (db.map aB) [] ps')).2.st+1 } F Fd'/\ci Fd w (F++Fd') w':=by
 have hmx:az=140737488355328:=rfl
 obtain⟨rfl,hdn1,hdn2⟩:=hd.sl_len
 have hFM:∀b∈Fd++M,b<w.heap.size:=by
  intro b hb
  rcases List.mem_append.1 hb with hb|hb
  ·exact(h.own_lt b hb).1
  ·exact h.mlt b hb
 obtain⟨ss,hs1,hs2,hs3,hs4⟩:=h.ok.secs
 refine uV fun k1 hk1 w1 hw1 hkn1=>⟨(gg (h.kp0 hw1)).mono ?_⟩
 rintro e w2 ⟨rfl,hw2⟩
 have hk02:=hw1.trans hw2
 refine⟨_,rfl,hw2,fun hc=>by simp at hc,fun _ hkn2=>⟨(sH (hd.kp0 hk02)).mono ?_⟩⟩
 rintro e w3 ⟨rfl,hw3⟩
 have hk03:=hk02.trans hw3
 refine⟨_,rfl,hw3,fun hz=>⟨fun hn _=>?_,fun hn hkn3=>⟨k.down,(h.kp0 hk03).cell.1,fun hdn _=>?_,fun hdn hkn3'=>?_⟩⟩,fun hne _=>?_⟩
 ·rw[if_pos (.inr (by omega))];exact⟨rfl,hk03⟩
 ·rw[if_neg (by simp only[not_or];exact⟨hz,by omega⟩),if_pos hdn];exact⟨rfl,hk03⟩
 rotate_left
 ·rw[if_pos (.inl hne)];exact⟨rfl,hk03⟩
 have hz':=Classical.not_not.1 hz
 have hn':db.length≠0:=by omega
 have hv:=pf hz' hn' hp
 obtain⟨hdl,hdx,hdnd⟩:=lJ hz'
 have hA:=hA hz' hn' hdn
 have n1:¬(mn db≠0∨db.length=0):=by simp only[not_or];exact⟨hz,by omega⟩
 have n2':¬(k.down=true):=by simp[hdn]
 have hk1l:=ab hkn3'
 have s03:=hk03.size
 refine nX fun w4 hb4 hw4=>⟨_,rfl,[],hw4,⟨by simp⟩,fun hkn4=>?_⟩
 generalize hl_:w3.heap.size=l at *
 have hl4:aM w4 l d 1 (0:Nat):=hb4
 have s34:=hw4.size
 have hll:=ab hb4
 have hMm:∀b∈k1::l::(Fd++M),b<w4.heap.size:=by
  intro b hb
  simp only[List.mem_cons]at hb
  rcases hb with rfl|rfl|hb
  ·omega
  ·omega
  ·have:=hFM b hb;omega
 refine eC (enc:=Pl.enc) (t:=jz) hMm fun w5 hm5 hw5=>⟨_,rfl,[],hw5,⟨by simp⟩,fun hkn5=>?_⟩
 generalize hm_:w4.heap.size=m at *
 refine nX fun w6 hb6 hw6=>⟨_,rfl,[],hw6,⟨by simp⟩,fun k2 hk2=>?_⟩
 generalize hs_:w5.heap.size=s at *
 have s45:=hw5.size
 have s56:=hw6.size
 have hml:=hm5.lt
 have hsl:=ab hb6
 have hs6:SC w6 s l 0 none 0 0 (some m) none 0 0 0:=hb6
 have hl6:=(hl4.keep hw5 (by simp)).keep hw6 (by simp)
 have hk06:=((hk03.trans hw4).trans hw5).trans hw6
 have k12:k1≠k2:=by omega
 generalize hN:k1::k2::(Fd++M)=N at *
 have hNl:∀b∈N,b=k2∨b<w4.heap.size:=by
  intro b hb
  rw[<-hN]at hb
  simp only[List.mem_cons]at hb
  rcases hb with rfl|rfl|hb
  ·exact .inr (by omega)
  ·exact .inl rfl
  ·exact .inr (by have:=hFM b hb;omega)
 have hsN:s∉N:=fun hm=>by rcases hNl s hm with h|h<;>omega
 have hlN:l∉N:=by
  rw[<-hN]
  simp only[List.mem_cons,not_or]
  exact⟨by omega,by omega,fun hm=>by have:=hFM l hm;omega⟩
 have hmN:m∉N:=fun hm=>by rcases hNl m hm with h|h<;>omega
 refine⟨fun vs w'=>∃(i:Nat) (a:Option Addr) (n c:Nat),vs=[iv (i:Int)]/\i<=db.length/\KpL [] w w'/\SC w' s l 0 a n c (some m) none 0 0 0/\aM w' l d 1 (0:Nat)/\bI gG (s::l::m::N) w' ((db.take i).map aB) a n c/\(∀b∈aj a,w.heap.size<=b)/\cZ Pl.enc jz (s::l::(aj a++N)) w' m (aO 0 (db.take i)),
  fun vs _=>match vs with|[.int _ i]=>db.length - i.toNat|_=>0,fun w7 hw7 hkn7=>⟨0,none,0,0,rfl,by omega,hk06.trans hw7,hs6.keep hw7 (by simp),hl6.keep hw7 (by simp),bI.nil' _ fun b hb=>?_,by simp[aj],?_⟩,?_⟩
 ·have:=hw7.size
  have hk2l:=ab hkn7.1
  simp only[List.mem_cons]at hb
  rcases hb with rfl|rfl|rfl|hb
  ·omega
  ·omega
  ·omega
  ·rcases hNl b hb with rfl|hb<;>omega
 ·refine hm5.step (hw6.trans hw7) (by simp) fun b hb=>?_
  rw[<-hN]at hb
  simp only[aj,List.nil_append,List.mem_cons]at hb ⊢
  rcases hb with rfl|rfl|rfl|rfl|hb
  ·exact .inr (by omega)
  ·exact .inl (by simp)
  ·exact .inl (by simp)
  ·exact .inr (by omega)
  ·exact .inl (by simp[hb])
 rintro n2 w8 ⟨i,a,n,c,hvs,hi,hk8,hs8,hl8,hA8,hnew8,hm8⟩
 simp only[List.cons.injEq,Value.int.injEq,true_and,and_true]at hvs
 subst hvs
 have s08:=hk8.size
 constructor
 ·intro hlt
  have gi:i<db.length:=by omega
  have hlA:=hA8.len
  rw[List.length_map,List.length_take,Nat.min_eq_left hi]at hlA
  obtain⟨ad,cs,rfl,hv1,hld1,_,_⟩:=hd.sl_get gi
  obtain⟨b1,p1,q1,b2,p2,q2,b3,p3,q3,rfl,hsz,hx1,hx2,hx3⟩:=hv1.nm
  obtain⟨hp3,_,hq3⟩:=hx3.sl_len
  subst hp3
  have hxm:=List.getElem_mem gi
  have hao:=dQ (hdx _ hxm).2
  have htk:db.take (i+1)=db.take i++[db[i]]:=(List.take_append_getElem gi).symm
  have hfp:aO 0 (db.take (i+1))=aO 0 (db.take i)++ff i db[i].arr.cells:=by
   rw[htk,jd];simp[aO,Nat.min_eq_left hi]
  have hnd:=kr (i:=0) (l:=db.take (i+1)) fun x hx=>(hdx x (List.mem_of_mem_take hx)).2
  rw[hfp]at hnd
  generalize db[i]=x at *
  have hkl2:k2<w8.heap.size∨True:=.inr trivial
  refine⟨ad,rfl,by omega,hlt,fun hkn8=>⟨_,_,_,_,_,_,_,_,_,_,hld1.kp hk8,fun _=>iZ (z:=[.string ByteArray.empty,.slice none 0 0,.slice none 0 0,.slice none 0 0]) ⟨_,fun w=>ky (z:=.agg #[.string ByteArray.empty,.slice none 0 0,.slice none 0 0,.slice none 0 0]) (by kernel_rfl) w,rfl⟩ fun w9 hb9 hw9=>⟨_,rfl,[],hw9,⟨⟨by simp⟩,⟨by simp⟩⟩,fun hkn9=>⟨⟨[_,_,_,_],ak hb9 0 _ rfl,rfl⟩,bE hb9,?_,?_⟩⟩⟩⟩
  ·have:=ab hkn8.1;have:=ab hkn8.2;exact⟨⟨by simp;omega⟩,⟨by simp;omega⟩⟩
  rintro w10 rfl hkn10
  have hk2l8:=ab hkn8.1
  have hk1l8:=ab hkn8.2
  have hb10:=cL (off:=0) (l:=[.string x.name,.slice b1 p1 q1,.slice b2 p2 q2,.slice b3 x.arr.cells.length q3]) hb9 (by simp)
  have hkS9:=cK w9 ⟨w8.heap.size,0,none⟩ [Value.string x.name,.slice b1 p1 q1,.slice b2 p2 q2,.slice b3 x.arr.cells.length q3]
  generalize hw10:bL w9 ⟨w8.heap.size,0,none⟩ [Value.string x.name,.slice b1 p1 q1,.slice b2 p2 q2,.slice b3 x.arr.cells.length q3] 0=w10 at *
  generalize hv8:w8.heap.size=v8 at *
  have hk810:KpL [] w8 w10:=hw9.more hkS9 (by simp;omega)
  have s10:=hk810.size
  have hMl10:∀b∈aj a++(s::l::m::N),b<w10.heap.size:=by
   intro b hb
   rcases List.mem_append.1 hb with hb|hb
   ·have:=(hA8.blk_lt b hb).1;omega
   ·have:=hA8.mlt b hb;omega
  refine⟨_,_,_,by rw[rP,al];exact ak hb10 1 [_] rfl,fun _=>⟨_,_,_,by rw[al,al];exact ak hb10 2 [_] rfl,fun _=>⟨(wM (M:=aj a++(s::l::m::N)) (cells:=[]) hMl10 (hx1.kp0 (hk8.trans hk810)) (hx2.kp0 (hk8.trans hk810)) (R.sl_nil _ [] _ _ _) hao.1 (by simp) (by simp) (by simp)).mono ?_⟩⟩⟩
  rintro e w11 ⟨c1,p1',q1',c2,p2',q2',c3,p3',q3',cells',rfl,hw11,hpm,_,g1,g2,g3⟩
  have hc0:cells'=[]:=List.perm_nil.1 hpm
  subst hc0
  have s11:=hw11.size
  refine⟨_,_,_,_,_,_,_,_,_,_,rfl,hw11,fun hkn11=>iZ (z:=[.slice none 0 0,.slice none 0 0,.slice none 0 0]) ⟨_,fun w=>ky (z:=.agg #[.slice none 0 0,.slice none 0 0,.slice none 0 0]) (by kernel_rfl) w,rfl⟩ fun w12 hb12 hw12=>⟨_,rfl,[],hw12,⟨⟨by simp⟩,⟨by simp⟩⟩,fun hkn12=>⟨⟨[_,_,_],ak hb12 0 _ rfl,rfl⟩,bE hb12,⟨⟨by simp;omega⟩,⟨by simp;omega⟩⟩,?_⟩⟩⟩
  rintro w13 rfl
  have hb13:=cL (off:=0) (l:=[.slice c1 p1' q1',.slice c2 p2' q2',.slice c3 p3' q3']) hb12 (by simp)
  have hkS12:=cK w12 ⟨w11.heap.size,0,none⟩ [Value.slice c1 p1' q1',.slice c2 p2' q2',.slice c3 p3' q3']
  generalize hw13:bL w12 ⟨w11.heap.size,0,none⟩ [Value.slice c1 p1' q1',.slice c2 p2' q2',.slice c3 p3' q3'] 0=w13 at *
  generalize hv11:w11.heap.size=v11 at *
  have hk1113:KpL [v11] w11 w13:=(hw12.mono (by simp)).trans hkS12
  have hk1013:KpL [] w10 w13:=hw11.more hk1113 (by simp;omega)
  have hk813:=hk810.trans hk1013
  have s13:=hk1113.size
  have hs13:=hs8.keep hk813 (by simp)
  have hb13':w13.heap[v8]?=_:=(hk1013.blk v8 (ab hb10) (by simp)).trans hb10
  refine⟨fun hc=>absurd rfl hc,fun _=>⟨_,_,_,hs13.ld2,_,by rw[rP];exact ak hb13' 0 [_] rfl,_,_,_,_,_,_,_,_,_,ak hb13 0 _ rfl,fun k27 hk27 w14 hw14 hkn14=>?_⟩⟩
  have hk814:=hk813.trans hw14
  have s14:=hw14.size
  have up:∀{α:Type} {t:Ty α} {x:α} {cs:List Value},R t (aj a++(s::l::m::N)) w11 x cs->R t (aj a++(s::l::m::N)) w14 x cs:=fun hr=>hr.oldN (hk1113.trans (hw14.mono (by simp))) (by simp;omega) fun b hb=>.inl hb
  have hsA:s∉aj a:=fun hm=>(hA8.blk_lt s hm).2 (by simp)
  have hmA:m∉aj a:=fun hm=>(hA8.blk_lt m hm).2 (by simp)
  have hlA':l∉aj a:=fun hm=>(hA8.blk_lt l hm).2 (by simp)
  refine aD Bc (hA8.kp0 hk814) hkn14.1 (R.mkNm (c:=aB x) hsz (up g1) (up g2) (up g3)) (by omega) fun a13 c13 w15 hC=>⟨_,_,_,rfl,_,hC.kp,⟨⟨fun hm=>by have:=(hA8.blk_lt _ hm).1;omega⟩,⟨fun hm=>by have:=(hA8.blk_lt _ hm).2;exact this (by rw[<-hN];simp)⟩,⟨fun hm=>by have:=(hA8.blk_lt _ hm).2;exact this (by rw[<-hN];simp)⟩⟩,fun hkn15=>⟨⟨ak hkn15.2.1 0 [_] rfl,trivial⟩,fun _=>?_⟩⟩
  have hs15:=(hs8.keep hk814 (by simp)).keep hC.kp hsA
  have hkS:=hs15.kpS 2 (.slice a13 (n+1) c13)
  have hs16:=hs15.set2 a13 (n+1) c13
  refine⟨⟨_,hs15.ld2,rfl⟩,hs15.nf 2,⟨⟨by simp;have:=ab hs8;omega⟩,⟨by simp;rintro rfl;exact hsN (by rw[<-hN];simp)⟩,⟨by simp;rintro rfl;exact hsN (by rw[<-hN];simp)⟩⟩,?_⟩
  rintro w16 rfl hkn16
  generalize hw16:bL w15 ((⟨s,0,none⟩:Addr).add 2) [.slice a13 (n+1) c13] 0=w16 at *
  have hk16:KpL [] w w16:=((hk8.trans hk814).more hC.kp fun b hb=>.inr (hnew8 b hb)).more hkS (by simp;have:=hk06.size;omega)
  have hv8s:v8∉aj a:=fun hm=>by have:=(hA8.blk_lt _ hm).1;omega
  have hb16:w16.heap[v8]?=_:=(hkS.blk v8 (by have:=ab hb13';have:=hC.kp.size;omega) (by simp;have:=ab hs8;omega)).trans ((hC.kp.blk v8 (by have:=ab hb13';omega) hv8s).trans ((hw14.blk v8 (ab hb13') (by simp)).trans hb13'))
  have hl16:aM w16 l d 1 (0:Nat):=((hl8.keep hk814 (by simp)).keep hC.kp hlA').keep hkS (by simp;omega)
  have hA16:bI gG (s::l::m::N) w16 ((db.take (i+1)).map aB) a13 (n+1) c13:=by
   rw[htk,List.map_append]
   exact hC.acc.kp hkS (by simp)
  have hnew16:∀b∈aj a13,w.heap.size<=b:=fun b hb=>(hC.own b hb).elim (hnew8 b) fun h=>by have:=hk814.size;omega
  have hm16:cZ Pl.enc jz (s::l::(aj a13++N)) w16 m (aO 0 (db.take i)):=by
   refine((hm8.step hk814 (by simp) fun b hb=>.inl hb).step hC.kp (fun b hb=>by simp[hb]) (M':=s::l::(aj a13++N)) fun b hb=>?_).step hkS (by simp) fun b hb=>.inl hb
   simp only[List.mem_cons,List.mem_append]at hb ⊢
   rcases hb with rfl|rfl|hb|hb
   ·exact .inl (.inl rfl)
   ·exact .inl (.inr (.inl rfl))
   ·exact(hC.own b hb).imp (fun h=>.inr (.inr (.inl h))) id
   ·exact .inl (.inr (.inr (.inr hb)))
  have dec:db.length - ((i:Int)+1).toNat<db.length - (i:Int).toNat:=by omega
  have s16:=hk16.size
  have hk27l:=ab hkn16.1
  have hk2l16:=ab hkn16.2.1
  have hk1l16:=ab hkn16.2.2
  refine⟨_,_,_,by rw[al,al];exact ak hb16 3 [_] rfl,fun vs w'=>∃(j:Nat),vs=[iv (j:Int)]/\j<=x.arr.cells.length/\KpL [] w w'/\SC w' s l 0 a13 (n+1) c13 (some m) none 0 0 0/\aM w' l d 1 (0:Nat)/\bI gG (s::l::m::N) w' ((db.take (i+1)).map aB) a13 (n+1) c13/\cZ Pl.enc jz (s::l::(aj a13++N)) w' m (aO 0 (db.take i)++ff i (x.arr.cells.take j)),
   fun vs _=>match vs with|[.int _ i]=>x.arr.cells.length - i.toNat|_=>0,fun _=>⟨0,rfl,by omega,hk16,hs16,hl16,hA16,by simpa[ff]using hm16⟩,?_⟩
  rintro n4 w17 ⟨j,hvs,hj,hk17,hs17,hl17,hA17,hm17⟩
  simp only[List.cons.injEq,Value.int.injEq,true_and,and_true]at hvs
  subst hvs
  have s17:=hk17.size
  constructor
  ·intro hjl
   have gj:j<x.arr.cells.length:=by omega
   have hce:=hao.2.2.1 _ (List.getElem_mem gj)
   obtain⟨ad6,cs6,rfl,hv6,hld6,_,_⟩:=(hx3.kp0 hk17).sl_get gj
   obtain⟨a15,k32,k33,a16,k34,k35,rfl,y1,y2⟩:=hv6.cell
   have htj:x.arr.cells.take (j+1)=x.arr.cells.take j++[x.arr.cells[j]]:=(List.take_append_getElem gj).symm
   have hkey:be i x.arr.cells[j].at_∉(aO 0 (db.take i)++ff i (x.arr.cells.take j)).map (·.1):=by
    intro hm
    have hnd':=hnd
    have e5:ff i x.arr.cells=ff i (x.arr.cells.take j)++ff i (x.arr.cells[j]::x.arr.cells.drop (j+1)):=by
     unfold ff
     rw[<-List.map_append,<-List.drop_eq_getElem_cons gj,List.take_append_drop]
    rw[e5,<-List.append_assoc,List.map_append,List.nodup_append]at hnd'
    exact hnd'.2.2 _ hm _ (List.mem_map.2 ⟨_,List.mem_map.2 ⟨x.arr.cells[j],List.mem_cons_self,rfl⟩,rfl⟩) rfl
   generalize x.arr.cells[j]=cc at *
   obtain⟨e1,e2,e3,e4⟩:=gI hce
   have h14:=dN (cS hao.1).1
   have hsd:=cS hao.1
   obtain⟨y2l,_,_⟩:=y2.sl_len
   refine⟨ad6,rfl,by omega,hjl,fun hkn17=>⟨_,_,_,_,_,_,hld6,fun k36 hk36=>⟨_,hs17.ld3,fun w18 hw18 hkn18=>⟨(rj (x:=(i:Int)) (y1.kp0 hw18) (by omega)).mono ?_⟩⟩⟩⟩
   rintro e w19 ⟨rfl,hw19⟩
   generalize hpp:be (i:Int) cc.at_=p at *
   refine⟨p.a,p.p0,p.p1,p.p2,p.p3,rfl,hw19,fun hkn19=>?_⟩
   have hk1719:=hw18.trans hw19
   have s1719:=hk1719.size
   have hm19:=hm17.step hk1719 (by simp) (M':=s::l::(aj a13++N)) fun b hb=>.inl hb
   have hMv:∀b∈m::s::l::(aj a13++N),b<w19.heap.size:=by
    intro b hb
    simp only[List.mem_cons,List.mem_append]at hb
    rcases hb with rfl|rfl|rfl|hb|hb
    ·exact hm19.lt
    ·have:=hA17.mlt b (by simp);omega
    ·have:=hA17.mlt b (by simp);omega
    ·have:=(hA17.blk_lt b hb).1;omega
    ·have:=hA17.mlt b (by simp[hb]);omega
   refine⟨(ie (M:=m::s::l::(aj a13++N)) hMv (by omega) (y2.kp0 hk1719)).mono ?_⟩
   rintro e w20 ⟨a17,k37,k38,rfl,hV⟩
   have hRv:=hV.acc.done (by have:=hV.acc.len;omega)
   refine⟨_,_,_,rfl,hV.kpn,fun hkn20=>?_⟩
   have hk1720:=hk1719.trans hV.kpn
   have hm20:=hm17.step hk1720 (by simp) (M':=s::l::(aj a13++N)) fun b hb=>.inl hb
   have hsta:R jz (m::s::l::(aj a13++N)) w20 ⟨0,cc.vals⟩ [iv 0,.slice a17 k37 k38]:=R.mkSta (ae.2 (by simp)) hRv
   have hml17:=hm17.lt
   have s4w:w4.heap.size<=w.heap.size∨True:=.inr trivial
   have hm13:m∉aj a13:=fun hm=>(hA17.blk_lt m hm).2 (by simp)
   refine dv (enc:=Pl.enc) (v:=⟨0,cc.vals⟩) mH qH hm20 p hsta fun w21 hm21 hw21=>⟨rfl,[m],hw21,⟨⟨by simp;omega⟩,⟨by simp;rintro rfl;omega⟩,⟨by simp;rintro rfl;exact hmN (by rw[<-hN];simp)⟩,⟨by simp;rintro rfl;exact hmN (by rw[<-hN];simp)⟩⟩,ae.2 (by omega),fun _=>⟨⟨j+1,rfl,by omega,?_,?_,?_,?_,?_⟩,by dsimp only;omega⟩⟩
   ·exact(hk17.trans hk1720).more hw21 (by simp;have:=hk03.size;have:=hw4.size;omega)
   ·exact(hs17.keep hk1720 (by simp)).keep hw21 (by simp;omega)
   ·exact(hl17.keep hk1720 (by simp)).keep hw21 (by simp;omega)
   ·exact(hA17.kp0 hk1720).kp hw21 (by simp)
   ·rw[rQ hkey]at hm21
    rw[htj]
    have:aO 0 (db.take i)++ff i (x.arr.cells.take j++[cc])=aO 0 (db.take i)++ff i (x.arr.cells.take j)++[(p,⟨0,cc.vals⟩)]:=by
     unfold ff
     rw[List.map_append,List.append_assoc]
     simp[hpp]
    rw[this]
    exact hm21
  ·intro hjg
   have hje:j=x.arr.cells.length:=by omega
   subst hje
   rw[List.take_length]at hm17
   refine⟨ae.2 (by omega),fun _=>⟨⟨i+1,a13,n+1,c13,rfl,by omega,hk17,hs17,hl17,hA17,hnew16,by rw[hfp];exact hm17⟩,dec⟩⟩
 ·intro hge w22 hw22 hkn22
  have hie:i=db.length:=by omega
  subst hie
  rw[List.take_length]at hA8 hm8
  have hk22:=hk8.trans hw22
  have s22:=hw22.size
  have hs22:=hs8.keep hw22 (by simp)
  have hlM:(db.map aB).length=db.length:=by simp
  have hInAt:∀(u:Int) {w':World},ar .i64 u->SC w' s l 0 a n c (some m) none 0 0 u->KpL [s] w22 w'->fy N w' s l ⟨0,db.map aB,aO 0 db,[],u⟩ m a n c none 0 0:=by
   intro u w' hu hsc hk
   have hA22:=hA8.kp0 hw22
   have hAd:=(hA22.done (by have:=hA8.len;simp at this;omega)).kp hk (by simp)
   have hm22:=(hm8.step hw22 (by simp) (M':=s::l::(aj a++N)) fun b hb=>.inl hb).step hk (by simp) (M':=s::l::(aj none++N)) fun b hb=>.inl (by simp[aj]at hb ⊢;rcases hb with rfl|rfl|hb<;>simp[*])
   refine⟨hsc,hAd.weak fun b hb=>by simpa[aj]using hb,hm22,bI.nil' _ fun b hb=>?_,by omega,hsN,hlN,ae.2 (by simp),hu,fun p hpm=>sO (hv.pls p hpm) hv.sch (by show(db.map aB).length<=1000;omega)⟩
   have:=hA22.mlt b hb
   have:=hk.size
   omega
  have hl22:=hl8.keep hw22 (by simp)
  have hu0:ar .i64 (0:Int):=ae.2 (by omega)
  refine⟨(gZ (st:=⟨0,db.map aB,aO 0 db,[],0⟩) ⟨m,a,n,c,none,0,0,hInAt 0 hu0 hs22 (KpL.refl _ _),hl22,rfl⟩ (by show(db.map aB).length<=_;omega) (by show(aO 0 db).length<=_;omega) (by show(0:Nat)<=_;omega)).mono ?_⟩
  rintro e w23 ⟨rfl,hw23⟩
  have hus:1+8*((db.map aB).length:Int)+3*((aO 0 db).length:Int)+(([]:List bH).length:Int)=(aU db).use:=rfl
  rw[hus]
  have hs23:=hs22.keep hw23 (by simp)
  have hkS:=hs23.kpS 5 (iv (aU db).use)
  have hs24:=hs23.set5 (aU db).use
  have hk1l23:k1<w8.heap.size:=by have:=hk06.size;have:=hA8.mlt k1 (by rw[<-hN];simp);omega
  have hk2l23:k2<w8.heap.size:=hA8.mlt k2 (by rw[<-hN];simp)
  have hsk:s≠k1/\s≠k2:=⟨by rintro rfl;exact hsN (by rw[<-hN];simp),by rintro rfl;exact hsN (by rw[<-hN];simp)⟩
  refine⟨_,rfl,hw23,fun hkn23=>⟨⟨_,hs23.ld5,rfl⟩,hs23.nf 5,⟨⟨by simp;exact Ne.symm hsk.2⟩,⟨by simp;exact Ne.symm hsk.1⟩⟩,?_⟩⟩
  rintro w24 rfl
  generalize hw24:bL w23 ((⟨s,0,none⟩:Addr).add 5) [iv (aU db).use] 0=w24 at *
  have hk2224:KpL [s] w22 w24:=(hw23.mono (by simp)).trans hkS
  have s24:=hk2224.size
  have hsge:w.heap.size<=s:=by have:=hk03.size;have:=hw4.size;omega
  have hk24:KpL [] w w24:=hk22.more hk2224 (by simp;omega)
  have hSt24:aK N w24 s l d 1 (0:Nat) (aU db) (s::l::m::aj none):=⟨m,a,n,c,none,0,0,hInAt _ (ae.2 (by have:=hv.u0;have:=hv.u1;omega)) hs24 hk2224,hl22.keep hk2224 (by simp;omega),rfl⟩
  refine⟨_,hs24.ld5,fun w25 hw25 hkn25=>⟨(fB (h.kp0 (hk24.trans hw25)) (by unfold Dk.secs;omega)).mono ?_⟩⟩
  rintro e w26 ⟨rfl,hw26⟩
  have hk2426:=hw25.trans hw26
  refine⟨_,rfl,hw26,fun hlt _=>?_,fun hge2 hkn26=>⟨_,by rw[al];exact ak (hs24.keep hk2426 (by simp)) 0 [_] rfl,fun kf hkf w27 hw27 hkn27=>?_⟩⟩
  ·rw[if_neg n1,if_neg n2',if_pos hlt]
   exact⟨rfl,hk24.trans hk2426⟩
  have hk2427:=hk2426.trans hw27
  have hk27:=hk24.trans hk2427
  have s27:=hk2427.size
  have hkfl:=ab hkn27.1
  have hge':¬((k.half:Int)<(aU db).use):=hge2
  have hA':=hA (by omega)
  have s2426:=hk2426.size
  generalize hFF:s::l::m::aj none=F at *
  have hFn:∀b∈F,w.heap.size<=b:=by
   intro b hb
   have:=hk03.size
   have:=hw4.size
   rw[<-hFF]at hb
   simp[aj]at hb
   rcases hb with rfl|rfl|rfl<;>omega
  have hSt27:aK (Fd++(kf::k1::k2::M)) w27 s l d 1 (0:Nat) (aU db) F:=hSt24.step hk2427 (by simp) fun b hb=>by
   have hb':b=kf∨b∈N:=by
    rw[<-hN]
    simp only[List.mem_append,List.mem_cons]at hb ⊢
    rcases hb with hb|rfl|rfl|rfl|hb
    ·exact .inr (.inr (.inr (.inl hb)))
    ·exact .inl rfl
    ·exact .inr (.inl rfl)
    ·exact .inr (.inr (.inl rfl))
    ·exact .inr (.inr (.inr (.inr hb)))
   rcases hb' with rfl|hb'
   ·exact⟨.inr (by omega),hkfl⟩
   ·exact⟨.inl hb',by have:=hSt24.mlt b hb';omega⟩
  have hD27:bz (F++(kf::k1::k2::M)) w27 d k Fd:=h.step hk27 (by simp) fun b hb=>by
   rcases List.mem_append.1 hb with hb|hb
   ·exact⟨.inr (hFn b hb),(hSt27.own_lt b hb).1⟩
   ·refine⟨?_,hSt27.mlt b (List.mem_append_right _ hb)⟩
    simp only[List.mem_cons]at hb
    rcases hb with rfl|rfl|rfl|hb
    ·exact .inr (by have:=hk24.size;omega)
    ·exact .inr hk1
    ·exact .inr (by have:=hk03.size;have:=hw4.size;omega)
    ·exact .inl hb
  have hSys:bU (kf::k1::k2::M) w27 s l d 1 0 (aU db) k F Fd:=⟨hSt27,hD27⟩
  have hOwn:=hSys.own_lt
  refine⟨(zP (kf:=kf) (vd:=k1) (vs:=k2) hSys hv hpl (by simp) (fun ps' hp'=>(hA' ps' hp').1) (fun ps' hp'=>(hA' ps' hp').2.1) hkn27.1 hkn27.2.2 hkn27.2.1).mono ?_⟩
  rintro e w28 ⟨ps',hperm,rfl,Fd',nxt',hSys',hO,hnx⟩
  have nk2:k2∉F++Fd:=fun hm=>(hOwn k2 hm).2 (by simp)
  have nk1:k1∉F++Fd:=fun hm=>(hOwn k1 hm).2 (by simp)
  have eenc:ap (aU db).arrays (aU db).batches ps'=ap (db.map aB) [] ps':=rfl
  rw[eenc]at hSys' hnx ⊢
  generalize hr:k.fmt (ap (db.map aB) [] ps')=r at *
  have hOw:ci Fd w (F++Fd') w28:=by
   refine⟨(KpL.refl _ _ |>.trans (hk27.mono (by simp))).more hO.kp fun b hb=>?_,fun b hb=>?_⟩
   ·rcases List.mem_append.1 hb with hb|hb
    ·exact .inr (hFn b hb)
    ·exact .inl hb
   ·rcases hO.new b hb with hb|hb
    ·rcases List.mem_append.1 hb with hb|hb
     ·exact .inr (hFn b hb)
     ·exact .inl hb
    ·exact .inr (by have:=hk27.size;omega)
  refine⟨_,rfl,_,hO.kp,⟨⟨nk2⟩,⟨nk1⟩⟩,fun hne _=>?_,fun hz2 hkn28=>⟨(oZ (hSys'.weak (M':=M) (by simp;intro b hb;simp[hb])).sto (hSys'.weak (M':=M) (by simp;intro b hb;simp[hb])).dk ?_).mono ?_⟩⟩
  ·rw[if_neg n1,if_neg n2',if_neg hge']
   refine⟨ps',hperm,?_⟩
   rw[hr,if_pos hne]
   refine⟨rfl,Fd',(hSys'.dk.weak fun b hb=>by simp[hb]),⟨hOw.kp,fun b hb=>hOw.new b (by simp[hb])⟩⟩
  ·have:=(hA' ps' hperm).2.2
   rw[hr]at this
   exact this
  ·rintro e w29 ⟨rfl,hS29,hD29,hO29⟩
   have nk:∀x∈[k1,k2],x∉F++Fd':=fun x hx hm=>(hSys'.own_lt x hm).2 (by simp at hx;rcases hx with rfl|rfl<;>simp)
   refine⟨_,rfl,_,hO29.kp,⟨⟨nk k2 (by simp)⟩,⟨nk k1 (by simp)⟩⟩,fun _=>?_⟩
   rw[if_neg n1,if_neg n2',if_neg hge']
   refine⟨ps',hperm,?_⟩
   rw[hr,if_neg hz2]
   have hnx':=hnx (Classical.not_not.1 hz2)
   subst hnx'
   exact⟨s,l,F,Fd',rfl,⟨hS29,hD29⟩,hOw.trans hO29⟩
end Go.Vc
namespace Go.Vc
open Go Go.Proofs
structure Cl (k:Dk):Prop where
 on:k.down=false
 fu:k.fuse = -1
 len:k.now.length=64*k.n
 co:k.pend=[]->k.dur=k.now
theorem AV{l b:List Int}{i:Nat}(hi:i*64+64<=l.length)(hb:b.length=64):aF (dM l i b 0 64) i=b/\(∀j,j≠i->aF (dM l i b 0 64) j=aF l j)/\(dM l i b 0 64).length=l.length:=by
 have e:dM l i b 0 64=l.take (i*64)++(b++l.drop (i*64+64)):=by
  unfold dM
  simp[hb,List.take_of_length_le]
 rw[e]
 unfold aF
 refine⟨?_,fun j hj=>?_,by simp[hb];omega⟩
 ·rw[List.drop_append,List.drop_eq_nil_of_le (by simp;omega),List.nil_append]
  have:i*64 - (l.take (i*64)).length=0:=by simp;omega
  rw[this,List.drop_zero,List.take_append,hb,Nat.sub_self,List.take_zero,List.append_nil,List.take_of_length_le (by omega)]
 ·apply List.ext_getElem?
  intro m
  simp only[List.getElem?_take,List.getElem?_drop]
  split
  ·rename_i hm
   rw[List.getElem?_append]
   split
   ·rename_i h1
    rw[List.getElem?_take,if_pos (by simp at h1;omega)]
   ·rename_i h1
    simp only[List.length_take]at h1
    have h2:i*64<=j*64+m:=by omega
    have h3:i*64+64<=j*64+m:=by
     rcases Nat.lt_or_gt_of_ne hj with h|h
     ·omega
     ·omega
    rw[List.getElem?_append_right (by simp[hb];omega),List.getElem?_drop]
    congr 1
    simp[hb]
    omega
  ·rfl
theorem Cl.write{k:Dk}(h:Cl k){i:Nat}{b:List Int}(hi:i<k.n)(hb:b.length=64):
 (k.write i b).1=0/\Cl (k.write i b).2/\(k.write i b).2.n=k.n/\(k.write i b).2.st=k.st/\aF (k.write i b).2.now i=b/\(∀j,j≠i->aF (k.write i b).2.now j=aF k.now j)/\(k.write i b).2.pend.length=k.pend.length+1:=by
 have hl:=h.len
 have e:k.write i b=(0,k.put i b):=by
  unfold Dk.write
  rw[if_neg (by simp[h.on])]
  have e1:(k.put i b).fails=(false,k.put i b):=by
   unfold Dk.fails
   have:(k.put i b).fuse = -1:=h.fu
   rw[if_neg (by omega),if_neg (by omega)]
  rw[e1]
  simp
 rw[e]
 obtain⟨t1,t2,t3⟩:=AV (l:=k.now) (i:=i) (by omega) hb
 exact⟨rfl,⟨h.on,h.fu,t3.trans hl,fun hc=>by simp[Dk.put]at hc⟩,rfl,rfl,t1,t2,by simp[Dk.put]⟩
theorem Cl.sync{k:Dk}(h:Cl k):k.sync.1=0/\Cl k.sync.2/\k.sync.2.n=k.n/\k.sync.2.st=k.st/\k.sync.2.now=k.now/\k.sync.2.pend=[]:=by
 have e1:k.fails=(false,k):=by
  unfold Dk.fails
  have:=h.fu
  rw[if_neg (by omega),if_neg (by omega)]
 have e:k.sync=(0,{ k with dur:=k.now,pend:=[] }):=by
  unfold Dk.sync
  rw[if_neg (by simp[h.on]),e1]
  simp
 rw[e]
 exact⟨rfl,⟨h.on,h.fu,h.len,fun _=>rfl⟩,rfl,rfl,rfl,rfl⟩
theorem Cl.add1L{at0:Nat}{b:List Int}:∀{f i:Nat} {k:Dk},Cl k->at0+i+f<=k.n->
 (Dk.add1L at0 b f i k).1=0/\Cl (Dk.add1L at0 b f i k).2/\(Dk.add1L at0 b f i k).2.n=k.n/\(Dk.add1L at0 b f i k).2.st=k.st/\(∀j,i<=j->j<i+f->aF (Dk.add1L at0 b f i k).2.now (at0+j)=dZ b j)/\
 (∀j,j<at0+i∨at0+i+f<=j->aF (Dk.add1L at0 b f i k).2.now j=aF k.now j)/\(Dk.add1L at0 b f i k).2.pend=[]
 |0,i,k,h,hn=>by
  rw[Dk.add1L]
  obtain⟨s1,s2,s3,s4,s5,s6⟩:=h.sync
  exact⟨s1,s2,s3,s4,fun j h1 h2=>by omega,fun j _=>by rw[s5],s6⟩
 |f+1,i,k,h,hn=>by
  obtain⟨w1,w2,w3,w4,w5,w6,w7⟩:=h.write (i:=at0+i) (b:=dZ b i) (by omega) (iD b i)
  rw[Dk.add1L,if_neg (by simp[w1])]
  obtain⟨r1,r2,r3,r4,r5,r6,r7⟩:=Cl.add1L (at0:=at0) (b:=b) (f:=f) (i:=i+1) w2 (by omega)
  refine⟨r1,r2,r3.trans w3,r4.trans w4,fun j h1 h2=>?_,fun j hj=>?_,r7⟩
  ·by_cases hj:j=i
   ·subst hj
    rw[r6 (at0+j) (by omega),w5]
   ·exact r5 j (by omega) (by omega)
  ·rw[r6 j (by omega),w6 j (by omega)]
theorem uo(q:Int)(n:Nat):(bP q n).length=64:=by simp[bP]
theorem Cl.base_le{k:Dk}{num:Int}(hnum:0<=num)(hn:2<=k.n){i:Nat}(hi:i<k.half):k.base num+i<k.n:=by
 unfold Dk.base
 unfold Dk.half Dk.secs at hi ⊢
 have:(num%2).toNat<=1:=by omega
 rcases Nat.lt_or_ge (num%2).toNat 1 with h|h
 ·have:(num%2).toNat=0:=by omega
  rw[this];omega
 ·have:(num%2).toNat=1:=by omega
  rw[this];omega
theorem Cl.add{k:Dk}(h:Cl k){num:Int}{nxt:Nat}{q:Int}{b:List Int}(hnum:0<=num)(hn:2<=k.n)(hfit:nxt+aG b<k.half):
 (k.add num nxt q b).1=0/\Cl (k.add num nxt q b).2/\(k.add num nxt q b).2.n=k.n/\(k.add num nxt q b).2.st=k.st/\aF (k.add num nxt q b).2.now (k.base num+nxt)=bP q b.length/\(∀j,j<aG b->aF (k.add num nxt q b).2.now (k.base num+nxt+1+j)=dZ b j)/\
 (∀j,j<k.base num+nxt∨k.base num+nxt+1+aG b<=j->aF (k.add num nxt q b).2.now j=aF k.now j)/\(k.add num nxt q b).2.pend=[]/\(k.pend.length<=900000->gz k num nxt q b):=by
 have hb1:=Cl.base_le (k:=k) hnum hn (i:=nxt+aG b) hfit
 have ha1:k.add1 num nxt b=Dk.add1L (k.base num+nxt+1) b (aG b) 0 k:=rfl
 obtain⟨a1,a2,a3,a4,a5,a6,a7⟩:=Cl.add1L (at0:=k.base num+nxt+1) (b:=b) (f:=aG b) (i:=0) h (by omega)
 obtain⟨w1,w2,w3,w4,w5,w6,w7⟩:=a2.write (i:=k.base num+nxt) (b:=bP q b.length) (by rw[a3];omega) (uo q b.length)
 obtain⟨s1,s2,s3,s4,s5,s6⟩:=w2.sync
 have e:k.add num nxt q b=((Dk.add1L (k.base num+nxt+1) b (aG b) 0 k).2.write (k.base num+nxt) (bP q b.length)).2.sync:=by
  unfold Dk.add
  rw[ha1,if_neg (by simp[a1]),if_neg (by simp[w1])]
 rw[e]
 refine⟨s1,s2,s3.trans (w3.trans a3),s4.trans (w4.trans a4),by rw[s5,w5],fun j hj=>?_,fun j hj=>?_,s6,fun hp=>⟨hn,hfit,hp,?_,?_⟩⟩
 ·rw[s5,w6 _ (by omega),a5 j (by omega) (by omega)]
 ·rw[s5,w6 _ (by omega),a6 j (by omega)]
 ·rw[ha1,a7];simp
 ·rw[ha1,w7,a7];simp
end Go.Vc
namespace Go.Vc
open Go Go.Proofs
def zZ(l:List Int)(at0:Nat)(q:Int)(b:List Int):Prop:=aF l at0=bP q b.length/\∀j,j<aG b->aF l (at0+1+j)=dZ b j
theorem oD(q:Int)(n:Nat):(bP q n).getD 0 0=q/\(bP q n).getD 63 0=q:=by
 constructor
 ·rfl
 ·unfold bP;rfl
theorem mE(q:Int){n:Nat}(h:n<16777216):cu (bP q n)=n:=by
 have e1:(bP q n).getD 1 0=((n / 65536%256:Nat):Int):=rfl
 have e2:(bP q n).getD 2 0=((n / 256%256:Nat):Int):=rfl
 have e3:(bP q n).getD 3 0=((n%256:Nat):Int):=rfl
 unfold cu
 rw[e1,e2,e3]
 omega
def iW(b:List Int):Nat->List Int
 |0=>[]
 |n+1=>iW b n++dZ b n
theorem nz(b:List Int):∀n,(iW b n).length=64*n
 |0=>rfl
 |n+1=>by rw[iW,List.length_append,nz b n,iD];omega
theorem mG(b:List Int):∀n,(iW b n).take b.length=b.take (64*n)
 |0=>by simp[iW]
 |n+1=>by
  rw[iW,List.take_append,mG b n,nz]
  unfold dZ
  have e0:b.take (64*(n+1))=b.take (64*n)++(b.drop (64*n)).take 64:=by
   rw[<-List.take_add]
   rfl
  rw[e0]
  congr 1
  rw[show n*64=64*n from by omega]
  by_cases h:64*n<=b.length
  ·rw[List.take_append]
   have hl:((b.drop (64*n)).take 64).length=min 64 (b.length - 64*n):=by simp
   rw[List.take_of_length_le (by rw[hl];omega)]
   by_cases h2:b.length - 64*n<=64
   ·have:b.length - 64*n - ((b.drop (64*n)).take 64).length=0:=by rw[hl];omega
    rw[this,List.take_zero,List.append_nil]
   ·have:64 - ((b.drop (64*n)).take 64).length=0:=by rw[hl];omega
    rw[this]
    simp
  ·rw[show b.length - 64*n=0 from by omega,List.take_zero,List.drop_eq_nil_of_le (by omega)]
   rfl
theorem oB{k:Dk}{at0:Nat}{b:List Int}:∀{n:Nat},(∀j,j<n->aF k.now (at0+j)=dZ b j)->k.partsOf at0 n=iW b n
 |0,_=>rfl
 |n+1,h=>by rw[Dk.partsOf,iW,oB fun j hj=>h j (by omega),h n (by omega)]
theorem vp{k:Dk}(h:k.down=false){num:Int}(hnum:0<=num)(hn:2<=k.n){i:Nat}{q:Int}{b:List Int}(hr:zZ k.now (k.base num+i) q b)(hfit:i+aG b<k.half)(hb:b.length<16777216):
 k.readRec num i=(q,b,i+1+aG b,0):=by
 have hle:=Cl.base_le (k:=k) hnum hn (i:=i) (by omega)
 have e0:k.readE (k.base num+i:Nat)=0:=by
  unfold Dk.readE
  have:(k.secs:Int)=(k.n:Nat):=rfl
  rw[if_neg (by omega),if_neg (by simp[h])]
 have hs:(cu (aF k.now (k.base num+i))+63) / 64=aG b:=by rw[hr.1,mE q hb];rfl
 unfold Dk.readRec
 rw[if_neg (by omega),if_neg (by rw[e0];simp),hs,if_neg (by rw[hr.1,(oD q _).1,(oD q _).2];simp),if_neg (by omega)]
 rw[oB (b:=b) fun j hj=>hr.2 j hj,hr.1,mE q hb,(oD q _).1,mG]
 congr 2
 exact List.take_of_length_le (by unfold aG;omega)
theorem qX{k:Dk}(h:k.down=false){num:Int}(hnum:0<=num)(hn:2<=k.n){i:Nat}(hr:i<k.half->aF k.now (k.base num+i)=bK):(k.readRec num i).1=0/\(k.readRec num i).2.2.2=0:=by
 unfold Dk.readRec
 by_cases hi:k.half<=i
 ·rw[if_pos hi];exact⟨rfl,rfl⟩
 ·have hle:=Cl.base_le (k:=k) hnum hn (i:=i) (by omega)
  have e0:k.readE (k.base num+i:Nat)=0:=by
   unfold Dk.readE
   have:(k.secs:Int)=(k.n:Nat):=rfl
   rw[if_neg (by omega),if_neg (by simp[h])]
  rw[if_neg hi,if_neg (by rw[e0];simp),hr (by omega)]
  split
  ·exact⟨rfl,rfl⟩
  ·split
   ·exact⟨rfl,rfl⟩
   ·exact⟨rfl,rfl⟩
def lL(l:List Int)(base half:Nat):Nat->List (Int×List Int)->Nat->Prop
 |i,[],e=>e=i/\∀j,i<=j->j<half->aF l (base+j)=bK
 |i,q::r,e=>zZ l (base+i) q.1 q.2/\i+aG q.2<half/\q.2.length<16777216/\lL l base half (i+1+aG q.2) r e
theorem lL.recs{k:Dk}(h:k.down=false){num:Int}(hnum:0<=num)(hn:2<=k.n):∀{rs:List (Int×List Int)} {i e:Nat},lL k.now (k.base num) k.half i rs e->xY k num i rs e
 |[],i,e,hl=>by
  obtain⟨rfl,hz⟩:=hl
  have:=qX h hnum hn (i:=e) fun hi=>hz e (Nat.le_refl _) hi
  exact⟨rfl,this.1,this.2⟩
 |q::r,i,e,hl=>by
  obtain⟨h1,h2,h3,h4⟩:=hl
  exact⟨_,vp h hnum hn h1 h2 h3,by omega,by omega,lL.recs h hnum hn h4⟩
theorem lL.end_le{l:List Int}{base half:Nat}:∀{rs:List (Int×List Int)} {i e:Nat},lL l base half i rs e->i<=e
 |[],_,_,h=>by rw[h.1];exact Nat.le_refl _
 |q::r,i,e,h=>by have:=h.2.2.2.end_le;omega
theorem lL.snoc{l l':List Int}{base half:Nat}{q:Int×List Int}:∀{rs:List (Int×List Int)} {i e:Nat},lL l base half i rs e->zZ l' (base+e) q.1 q.2->e+aG q.2<half->q.2.length<16777216->(∀j,j<base+e∨base+e+1+aG q.2<=j->aF l' j=aF l j)->lL l' base half i (rs++[q]) (e+1+aG q.2)
 |[],i,e,h,hr,hf,hb,ho=>by
  obtain⟨rfl,hz⟩:=h
  refine⟨hr,hf,hb,rfl,fun j h1 h2=>?_⟩
  rw[ho _ (.inr (by omega))]
  exact hz j (by omega) h2
 |p::r,i,e,h,hr,hf,hb,ho=>by
  obtain⟨h1,h2,h3,h4⟩:=h
  have hle:=h4.end_le
  refine⟨⟨?_,fun j hj=>?_⟩,h2,h3,h4.snoc hr hf hb ho⟩
  ·rw[ho _ (.inl (by omega))];exact h1.1
  ·rw[ho _ (.inl (by omega))];exact h1.2 j hj
end Go.Vc
namespace Go.Vc
open Go Go.Proofs
theorem pL:bK.length=64:=by simp[bK]
theorem Cl.zeroL:∀{f i:Nat} {k:Dk},Cl k->i+f<=k.n->
 (Dk.zeroL f i k).1=0/\Cl (Dk.zeroL f i k).2/\(Dk.zeroL f i k).2.n=k.n/\(Dk.zeroL f i k).2.st=k.st/\(∀j,i<=j->j<i+f->aF (Dk.zeroL f i k).2.now j=bK)/\(∀j,j<i->aF (Dk.zeroL f i k).2.now j=aF k.now j)/\(Dk.zeroL f i k).2.pend=[]
 |0,i,k,h,hn=>by
  rw[Dk.zeroL]
  obtain⟨s1,s2,s3,s4,s5,s6⟩:=h.sync
  exact⟨s1,s2,s3,s4,fun j h1 h2=>by omega,fun j _=>by rw[s5],s6⟩
 |f+1,i,k,h,hn=>by
  obtain⟨w1,w2,w3,w4,w5,w6,w7⟩:=h.write (i:=i) (b:=bK) (by omega) pL
  rw[Dk.zeroL,if_neg (by simp[w1])]
  obtain⟨r1,r2,r3,r4,r5,r6,r7⟩:=Cl.zeroL (f:=f) (i:=i+1) w2 (by omega)
  refine⟨r1,r2,r3.trans w3,r4.trans w4,fun j h1 h2=>?_,fun j hj=>?_,r7⟩
  ·by_cases hj:j=i
   ·subst hj
    rw[r6 j (by omega),w5]
   ·exact r5 j (by omega) (by omega)
  ·rw[r6 j (by omega),w6 j (by omega)]
theorem Cl.zero{k:Dk}(h:Cl k):k.zero.1=0/\Cl k.zero.2/\k.zero.2.n=k.n/\k.zero.2.st=k.st/\(∀j,j<k.n->aF k.zero.2.now j=bK)/\k.zero.2.pend=[]:=by
 obtain⟨a,b,c,d,e,_,g⟩:=Cl.zeroL (f:=k.n) (i:=0) h (by omega)
 exact⟨a,b,c,d,fun j hj=>e j (by omega) (by omega),g⟩
theorem Cl.readE{k:Dk}(h:Cl k){i:Nat}(hi:i<k.n):k.readE i=0:=by
 unfold Dk.readE
 have:(k.secs:Int)=(k.n:Nat):=rfl
 rw[if_neg (by omega),if_neg (by simp[h.on])]
theorem xv{l:List Int}(hl:l.length=64):l.any (fun x=>decide (x≠0))=true∨l=bK:=by
 by_cases h:l.any (fun x=>decide (x≠0))=true
 ·exact .inl h
 ·refine .inr ?_
  simp only[List.any_eq_true,decide_eq_true_eq,not_exists,not_and,Decidable.not_not]at h
  unfold bK
  rw[<-hl]
  exact List.eq_replicate_of_mem h
theorem Cl.clearL{num:Int}:∀{f i:Nat} {wr:Bool} {k:Dk},Cl k->k.base num+i+f<=k.n->
 (Dk.clearL num f i wr k).1=0/\Cl (Dk.clearL num f i wr k).2/\(Dk.clearL num f i wr k).2.n=k.n/\(Dk.clearL num f i wr k).2.st=k.st/\(∀j,i<=j->j<i+f->aF (Dk.clearL num f i wr k).2.now (k.base num+j)=bK)/\
 (∀j,j<k.base num+i∨k.base num+i+f<=j->aF (Dk.clearL num f i wr k).2.now j=aF k.now j)/\(Dk.clearL num f i wr k).2.pend.length<=k.pend.length+f
 |0,i,wr,k,h,hn=>by
  rw[Dk.clearL]
  split
  ·obtain⟨s1,s2,s3,s4,s5,s6⟩:=h.sync
   exact⟨s1,s2,s3,s4,fun j h1 h2=>by omega,fun j _=>by rw[s5],by rw[s6];simp⟩
  ·exact⟨rfl,h,rfl,rfl,fun j h1 h2=>by omega,fun j _=>rfl,Nat.le_refl _⟩
 |f+1,i,wr,k,h,hn=>by
  have hr:=h.readE (i:=k.base num+i) (by omega)
  rw[Dk.clearL,if_neg (by rw[hr];simp)]
  have hsl:(aF k.now (k.base num+i)).length=64:=fv (by have:=h.len;omega)
  split
  ·obtain⟨w1,w2,w3,w4,w5,w6,w7⟩:=h.write (i:=k.base num+i) (b:=bK) (by omega) pL
   rw[if_neg (by simp[w1])]
   have hb:(k.write (k.base num+i) bK).2.base num=k.base num:=Dk.base_n w3 num
   obtain⟨r1,r2,r3,r4,r5,r6,r7⟩:=Cl.clearL (num:=num) (f:=f) (i:=i+1) (wr:=true) w2 (by omega)
   rw[hb]at r5 r6
   refine⟨r1,r2,r3.trans w3,r4.trans w4,fun j h1 h2=>?_,fun j hj=>?_,by omega⟩
   ·by_cases hj:j=i
    ·subst hj
     rw[r6 _ (by omega),w5]
    ·exact r5 j (by omega) (by omega)
   ·rw[r6 j (by omega),w6 j (by omega)]
  ·rename_i hz
   have hz':aF k.now (k.base num+i)=bK:=(xv hsl).resolve_left hz
   obtain⟨r1,r2,r3,r4,r5,r6,r7⟩:=Cl.clearL (num:=num) (f:=f) (i:=i+1) (wr:=wr) h (by omega)
   refine⟨r1,r2,r3,r4,fun j h1 h2=>?_,fun j hj=>r6 j (by omega),by omega⟩
   by_cases hj:j=i
   ·subst hj
    rw[r6 _ (by omega),hz']
   ·exact r5 j (by omega) (by omega)
theorem Cl.clear{k:Dk}(h:Cl k){num:Int}(hnum:0<=num)(hn:2<=k.n){i:Nat}(hi:i<=k.half):
 (k.clear num i).1=0/\Cl (k.clear num i).2/\(k.clear num i).2.n=k.n/\(k.clear num i).2.st=k.st/\(∀j,i<=j->j<k.half->aF (k.clear num i).2.now (k.base num+j)=bK)/\
 (∀j,j<k.base num+i∨k.base num+k.half<=j->aF (k.clear num i).2.now j=aF k.now j)/\(k.clear num i).2.pend.length<=k.pend.length+k.half:=by
 have hb:k.base num+k.half<=k.n:=by
  by_cases h0:k.half=0
  ·unfold Dk.base
   unfold Dk.half Dk.secs at h0 ⊢
   have:(num%2).toNat<=1:=by omega
   rw[h0];omega
  ·have:=Cl.base_le (k:=k) hnum hn (i:=k.half - 1) (by omega);omega
 obtain⟨r1,r2,r3,r4,r5,r6,r7⟩:=Cl.clearL (num:=num) (f:=k.half - i) (i:=i) (wr:=false) h (by omega)
 exact⟨r1,r2,r3,r4,fun j h1 h2=>r5 j h1 (by omega),fun j hj=>r6 j (by omega),by unfold Dk.clear;omega⟩
theorem Cl.note{k:Dk}(h:Cl k){num:Int}(hn:2<=k.n):
 (k.note num).1=0/\Cl (k.note num).2/\(k.note num).2.n=k.n/\(k.note num).2.st=k.st/\aF (k.note num).2.now (num%2).toNat=dj num/\(∀j,j≠(num%2).toNat->aF (k.note num).2.now j=aF k.now j)/\(k.note num).2.pend=[]:=by
 obtain⟨w1,w2,w3,w4,w5,w6,w7⟩:=h.write (i:=(num%2).toNat) (b:=dj num) (by omega) (jf num 8)
 obtain⟨s1,s2,s3,s4,s5,s6⟩:=w2.sync
 have e:k.note num=(k.write (num%2).toNat (dj num)).2.sync:=by unfold Dk.note;rw[if_neg (by simp[w1])]
 rw[e]
 exact⟨s1,s2,s3.trans w3,s4.trans w4,by rw[s5,w5],fun j hj=>by rw[s5,w6 j hj],s6⟩
theorem rO(num:Int):(dj num).take 8=[fe num 0,fe num 1,fe num 2,fe num 3,fe num 4,fe num 5,fe num 6,fe num 7]:=rfl
theorem pq{num:Int}(h0:0<=num)(h1:num<1000000000):eT ((dj num).take 8)=num:=by
 rw[rO]
 unfold eT fe
 simp only[List.foldl_cons,List.foldl_nil]
 simp only[Nat.reduceMul,Nat.reduceSub,Nat.reducePow,Int.cast_ofNat_Int]
 omega
theorem yz:eT (bK.take 8)=0:=by decide
def BE(l:List Int)(num:Int):Prop:=aF l (num%2).toNat=dj num/\(aF l (1 - (num%2).toNat)=bK∨∃m:Int,0<=m/\m<num/\aF l (1 - (num%2).toNat)=dj m)
theorem yl{k:Dk}{num:Int}(h0:0<num)(h1:num<1000000000)(h:BE k.now num):k.newest=num:=by
 obtain⟨ha,hb⟩:=h
 have hA:(aF k.now (num%2).toNat).take 8=(aF k.now (num%2).toNat).drop 56/\eT ((aF k.now (num%2).toNat).take 8)=num:=by
  rw[ha];exact⟨rfl,pq (by omega) h1⟩
 have hB:eT ((aF k.now (1 - (num%2).toNat)).take 8)<num/\0<=eT ((aF k.now (1 - (num%2).toNat)).take 8):=by
  rcases hb with hb|⟨m,m0,m1,hb⟩
  ·rw[hb,yz];omega
  ·rw[hb,pq m0 (by omega)];omega
 unfold Dk.newest Dk.noted
 rcases (by omega:num%2=0∨num%2=1) with hp|hp
 ·rw[hp]at hA hB
  simp only[Int.toNat_zero,Nat.sub_zero]at hA hB
  have hin:(if (aF k.now 0).take 8=(aF k.now 0).drop 56/\0<eT ((aF k.now 0).take 8)/\eT ((aF k.now 0).take 8)%2=(0:Nat) then eT ((aF k.now 0).take 8) else 0)=num:=by
   rw[if_pos ⟨hA.1,by rw[hA.2];omega,by rw[hA.2];omega⟩,hA.2]
  rw[hin,if_neg (by omega)]
 ·rw[hp]at hA hB
  have e1:(1:Int).toNat=1:=rfl
  rw[e1]at hA hB
  rw[Nat.sub_self]at hB
  have hc:(if (aF k.now 0).take 8=(aF k.now 0).drop 56/\0<eT ((aF k.now 0).take 8)/\eT ((aF k.now 0).take 8)%2=(0:Nat) then eT ((aF k.now 0).take 8) else 0)<num:=by split<;>omega
  rw[if_pos ⟨hA.1,by rw[hA.2];exact hc,by rw[hA.2];omega⟩,hA.2]
end Go.Vc
namespace Go.Vc
open Go Go.Proofs
theorem yV{x:Nm}(hn:bx x.name=true)(hs:aV x.arr.dims x.arr.attrs=0):(fS x).length<=191:=by
 obtain⟨h1,_,h3⟩:=cS hs
 have h14:=dN h1
 have e1:=kA (bN hn).2
 have e2:=cj 0 (n:=x.arr.dims.length) (by simp;omega)
 have e3:=cj 0 (n:=x.arr.attrs.length) (by simp;omega)
 have e4:=fh (f:=mX) (k:=23) (l:=x.arr.dims) fun d hd=>by
  obtain⟨d1,d2,d3,d4,d5⟩:=jt h1 d hd
  have a1:=kA (bN d1).2
  have a2:=cj 4 (n:=dW d.lo) (by have:=lD (x:=d.lo) (b:=1073741825) (by omega) (by omega);omega)
  have a3:=cj 4 (n:=dW d.hi) (by have:=lD (x:=d.hi) (b:=1073741825) (by omega) (by omega);omega)
  unfold mX
  simp only[List.length_append]
  omega
 have e5:=fh (f:=kh) (k:=14) (l:=x.arr.attrs) fun d hd=>by
  have a1:=kA (bN (lC hs d hd).1).2
  unfold kh
  simp only[List.length_append,List.length_cons,List.length_nil]
  omega
 unfold fS
 simp only[List.length_append]
 omega
theorem iL{st:bg}(h:dy st){ps:List (Pl×dE)}(hp:ps.Perm st.places):(ap st.arrays st.batches ps).length<=64*(8*st.arrays.length+3*st.places.length+st.batches.length):=by
 have h1:=h.a1
 have h2:=h.an
 have h3:=h.bn
 have h4:=h.pn
 have hl:=hp.length_eq
 have e1:=cj 0 (n:=st.arrays.length) (by simp;omega)
 have e2:=cj 1 (n:=st.batches.length) (by simp;omega)
 have e3:=cj 1 (n:=ps.length) (by simp;omega)
 have e4:=fh (f:=fS) (k:=191) (l:=st.arrays) fun x hx=>yV (h.nms x hx) (h.sch x hx)
 have e5:=fh (f:=dz) (k:=19) (l:=st.batches) fun x hx=>by
  obtain⟨b1,b2,b3⟩:=h.bat x hx
  have a1:=kA (bN b1).2
  have a2:=cj 5 (n:=dW x.stamp) (by have:=lD (x:=x.stamp) (b:=1099511627776) (by omega) (by omega);omega)
  unfold dz
  simp only[List.length_append]
  omega
 have e6:=fh (f:=dL st.arrays) (k:=132) (l:=ps) fun p hpm=>by
  have hpo:=h.pls p (hp.mem_iff.1 hpm)
  obtain⟨g1,g2,g3,g4,g5,g6,g7,g8⟩:=hpo.dims h.sch
  have ga:=hpo.a0
  have gb0:=hpo.b0
  have gb1:=hpo.b1
  have a1:=cj 0 (n:=IntKind.u64.wrap p.1.a) (by rw[aE (aJ.2 (by omega))];simp;omega)
  have a2:=o8 g5 (by omega)
  have a3:=cj 1 (n:=IntKind.u64.wrap p.2.batch) (by rw[aE (aJ.2 (by omega))];simp;omega)
  have a4:=mb g8 g7
  unfold dL
  simp only[List.length_append]
  omega
 unfold ap iC
 simp only[List.length_append]
 omega
theorem ki{st:bg}(h:dy st){ps:List (Pl×dE)}(hp:ps.Perm st.places):aG (ap st.arrays st.batches ps)<=8*st.arrays.length+3*st.places.length+st.batches.length:=by
 have:=iL h hp
 unfold aG
 omega
theorem pi{st:bg}{b:Bt}(hs:∀x∈st.arrays,aV x.arr.dims x.arr.attrs=0)(ha:st.arrays.length<=16)(h:md st b):aG (cD st.arrays b)<=1+3*b.changes.length/\(cD st.arrays b).length<16777216:=by
 have:=sm hs ha h
 have:=h.c2
 unfold aG
 omega
end Go.Vc
namespace Go.Vc
open Go Go.Proofs
theorem pX{κ β:Type}[DecidableEq κ]{l:List (κ×β)}{k:κ}{v:β}:(dX l k v).map (·.1)=if k∈l.map (·.1) then l.map (·.1) else l.map (·.1)++[k]:=by
 unfold dX
 by_cases h:k∈l.map (·.1)
 ·rw[if_pos h,if_pos,List.map_map]
  ·apply List.map_congr_left
   intro p _
   simp only[Function.comp]
   split
   ·rename_i e;simp_all
   ·rfl
  ·obtain⟨p,hp,he⟩:=List.mem_map.1 h
   rw[List.any_eq_true]
   exact⟨p,hp,by simpa using he⟩
 ·rw[if_neg h,if_neg]
  ·simp
  ·rw[List.any_eq_true]
   rintro⟨p,hp,he⟩
   exact h (List.mem_map.2 ⟨p,hp,by simpa using he⟩)
theorem wF{κ β:Type}[DecidableEq κ]{l:List (κ×β)}{k:κ}{v:β}(h:(l.map (·.1)).Nodup):((dX l k v).map (·.1)).Nodup:=by
 rw[pX]
 split
 ·exact h
 ·rename_i hk
  rw[List.nodup_append]
  exact⟨h,by simp,fun a ha b hb=>by simp at hb;subst hb;rintro rfl;exact hk ha⟩
theorem zK{κ β:Type}[DecidableEq κ]{l:List (κ×β)}{k:κ}{v:β}:(dX l k v).length<=l.length+1:=by
 have:=congrArg List.length (pX (l:=l) (k:=k) (v:=v))
 rw[List.length_map]at this
 rw[this]
 split<;>simp
theorem nj{bs:List bH}{n k:Int}:∀{l:List aR} {pl:List (Pl×dE)},(pl.map (·.1)).Nodup->((dp bs n k pl l).map (·.1)).Nodup/\(dp bs n k pl l).length<=pl.length+l.length
 |[],pl,h=>⟨h,Nat.le_refl _⟩
 |c::r,pl,h=>by
  have h1:((fN bs n k pl c).map (·.1)).Nodup/\(fN bs n k pl c).length<=pl.length+1:=by
   unfold fN
   split
   ·exact⟨wF h,zK⟩
   ·exact⟨h,by omega⟩
  obtain⟨h2,h3⟩:=nj (bs:=bs) (n:=n) (k:=k) (l:=r) h1.1
  refine⟨h2,?_⟩
  have:(dp bs n k pl (c::r))=dp bs n k (fN bs n k pl c) r:=rfl
  rw[this,List.length_cons]
  omega
theorem dy.commit{st:bg}{b:Bt}(h:dy st)(hb:md st b)(ht:∀x∈st.batches,x.token≠b.token)(h1:st.batches.length<1000)(h2:st.places.length+b.changes.length<=4000)(h3:st.use+b.weight<=100000):dy (st.commit b):=by
 obtain⟨x,hx,hall⟩:=hb.arr
 have hnd:=nj (bs:=st.batches++[b.seen]) (n:=(st.batches.length+1:Nat)) (k:=aI st.arrays b.array) (l:=b.changes) h.keys
 refine⟨h.a1,h.an,h.nms,h.nd,h.sch,h.cel,?_,?_,?_,?_,?_,hnd.1,?_,h3⟩
 ·show(st.batches++[b.seen]).length<=1000
  simp;omega
 ·intro y hy
  rcases List.mem_append.1 (show y∈st.batches++[b.seen] from hy) with hy|hy
  ·exact h.bat y hy
  ·simp at hy
   subst hy
   exact⟨hb.tok,hb.s0,hb.s1⟩
 ·show((st.batches++[b.seen]).map (·.token)).Nodup
  rw[List.map_append,List.nodup_append]
  refine⟨h.toks,by simp,fun t ht' u hu=>?_⟩
  obtain⟨y,hy,rfl⟩:=List.mem_map.1 ht'
  simp at hu
  subst hu
  exact ht y hy
 ·have:=hnd.2
  show(dp _ _ _ _ _).length<=4000
  omega
 ·intro p hp
  have hl:(st.commit b).batches.length=st.batches.length+1:=by show(st.batches++[b.seen]).length=_;simp
  rw[hl]
  rcases js (show p∈dp (st.batches++[b.seen]) (st.batches.length+1:Nat) (aI st.arrays b.array) st.places b.changes from hp) with ⟨c,hc,rfl⟩|hp
  ·obtain⟨c1,c2,c3,c4⟩:=j5 (hall c hc)
   exact⟨hb.k0,⟨x,hx,⟨c.at_,c1,c2,rfl⟩,c3,c4⟩,by show(0:Int)<=((st.batches.length+1:Nat):Int);omega,by show((st.batches.length+1:Nat):Int)<=((st.batches.length+1:Nat):Int);omega⟩
  ·obtain⟨p1,p2,p3,p4⟩:=h.pls p hp
   exact⟨p1,p2,p3,by omega⟩
 ·show 0<=st.use+b.weight
  have:=h.u0
  unfold Bt.weight
  omega
end Go.Vc
namespace Go.Vc
open Go Go.Proofs
structure wZ (k:Dk) (num:Int) (nxt:Nat) (arrays:List Nm) (bs:List bH) (ps:List (Pl×dE)) (bt:List Bt):Prop where
 cl:Cl k
 n2:10<=k.n
 num0:0<num
 num1:num<1000000
 note:BE k.now num
 log:lL k.now (k.base num) k.half 0 ((1,ap arrays bs ps)::bt.map fun b=>(2,cD arrays b)) nxt
 pend:k.pend=[]
theorem wZ.format{k:Dk}(h:Cl k)(hn:10<=k.n){arrays:List Nm}{ps:List (Pl×dE)}(hfit:aG (ap arrays [] ps)<k.half)(hl:(ap arrays [] ps).length<16777216):
 (k.fmt (ap arrays [] ps)).1=0/\wZ (k.fmt (ap arrays [] ps)).2 1 (0+1+aG (ap arrays [] ps)) arrays [] ps []/\(k.fmt (ap arrays [] ps)).2.n=k.n/\(k.fmt (ap arrays [] ps)).2.st=k.st/\
  gz k.zero.2 1 0 1 (ap arrays [] ps)/\(k.zero.2.add 1 0 1 (ap arrays [] ps)).2.pend=[]:=by
 obtain⟨z1,z2,z3,z4,z5,z6⟩:=h.zero
 have hh:k.zero.2.half=k.half:=Dk.half_n z3
 have hb:k.zero.2.base 1=k.base 1:=Dk.base_n z3 1
 generalize hB:ap arrays [] ps=B at *
 obtain⟨a1,a2,a3,a4,a5,a6,a7,a8,a9⟩:=z2.add (num:=1) (nxt:=0) (q:=1) (b:=B) (by omega) (by omega) (by rw[hh];omega)
 obtain⟨t1,t2,t3,t4,t5,t6,t7⟩:=a2.note (num:=1) (by rw[a3,z3];omega)
 have e:k.fmt B=(k.zero.2.add 1 0 1 B).2.note 1:=by unfold Dk.fmt;rw[if_neg (by simp[z1]),if_neg (by simp[a1])]
 rw[hb]at a5 a6 a7
 have e1:((1:Int)%2).toNat=1:=rfl
 rw[e1]at t5 t6
 have hbase:2<=k.base 1:=by unfold Dk.base;omega
 have hbh:k.base 1+k.half<=k.n:=by
  unfold Dk.base
  unfold Dk.half Dk.secs
  rw[e1];omega
 have hn':(k.fmt B).2.n=k.n:=by rw[e];exact t3.trans (a3.trans z3)
 have hbf:(k.fmt B).2.base 1=k.base 1:=Dk.base_n hn' 1
 have hhf:(k.fmt B).2.half=k.half:=Dk.half_n hn'
 refine⟨by rw[e];exact t1,⟨by rw[e];exact t2,by rw[hn'];exact hn,by omega,by omega,?_,?_,by rw[e];exact t7⟩,hn',by rw[e];exact t4.trans (a4.trans z4),a9 (by rw[z6];simp),a8⟩
 ·rw[e]
  refine⟨t5,.inl ?_⟩
  rw[e1,t6 _ (by omega),a7 _ (.inl (by omega)),z5 _ (by omega)]
 ·rw[hbf,hhf,hB]
  refine⟨⟨?_,fun j hj=>?_⟩,by dsimp only;omega,hl,rfl,fun j h1 h2=>?_⟩
  ·rw[e,t6 _ (by omega)];exact a5
  ·rw[e,t6 _ (by omega)]
   exact a6 j hj
  ·rw[e,t6 _ (by omega),a7 _ (.inr (by dsimp only at h1;omega)),z5 _ (by omega)]
end Go.Vc
namespace Go.Vc
open Go Go.Proofs
theorem lL.half_le{l:List Int}{base half:Nat}:∀{rs:List (Int×List Int)} {i e:Nat},lL l base half i rs e->rs≠[]->e<=half
 |[],_,_,_,h=>absurd rfl h
 |q::r,i,e,h,_=>by
  obtain⟨_,h2,_,h4⟩:=h
  cases r with
  |nil=>rw[h4.1];omega
  |cons p r=>exact h4.half_le (by simp)
theorem wZ.add{k:Dk}{num:Int}{nxt:Nat}{arrays:List Nm}{bs:List bH}{ps:List (Pl×dE)}{bt:List Bt}(h:wZ k num nxt arrays bs ps bt){b:Bt}(hfit:nxt+aG (cD arrays b)<k.half)(hl:(cD arrays b).length<16777216):
 (k.add num nxt 2 (cD arrays b)).1=0/\wZ (k.add num nxt 2 (cD arrays b)).2 num (nxt+1+aG (cD arrays b)) arrays bs ps (bt++[b])/\(k.add num nxt 2 (cD arrays b)).2.n=k.n/\(k.add num nxt 2 (cD arrays b)).2.st=k.st/\gz k num nxt 2 (cD arrays b):=by
 have hn2:=h.n2
 have hnum:=h.num0
 obtain⟨a1,a2,a3,a4,a5,a6,a7,a8,a9⟩:=h.cl.add (num:=num) (nxt:=nxt) (q:=2) (b:=cD arrays b) (by omega) (by omega) hfit
 have hb:(k.add num nxt 2 (cD arrays b)).2.base num=k.base num:=Dk.base_n a3 num
 have hh:(k.add num nxt 2 (cD arrays b)).2.half=k.half:=Dk.half_n a3
 have hbase:2<=k.base num:=by unfold Dk.base;omega
 refine⟨a1,⟨a2,by rw[a3];exact hn2,hnum,h.num1,?_,?_,a8⟩,a3,a4,a9 (by rw[h.pend];simp)⟩
 ·have h2:(num%2).toNat<=1:=by omega
  refine⟨by rw[a7 _ (.inl (by omega))];exact h.note.1,?_⟩
  rw[a7 _ (.inl (by omega))]
  exact h.note.2
 ·rw[hb,hh,List.map_append]
  have:=h.log.snoc (q:=(2,cD arrays b)) (l':=(k.add num nxt 2 (cD arrays b)).2.now) ⟨a5,a6⟩ hfit hl fun j hj=>a7 j (by dsimp only at hj;omega)
  exact this
end Go.Vc
namespace Go.Vc
open Go Go.Proofs
theorem wZ.cmp{k:Dk}{num:Int}{nxt:Nat}{arrays arrays':List Nm}{bs bs':List bH}{ps ps':List (Pl×dE)}{bt:List Bt}(h:wZ k num nxt arrays bs ps bt)(hnum1:num+1<1000000)(hfit:aG (ap arrays' bs' ps')<k.half)(hl:(ap arrays' bs' ps').length<16777216)(hk:k.n<=2048):
 (k.clear (num+1) 0).1=0/\((k.clear (num+1) 0).2.add (num+1) 0 1 (ap arrays' bs' ps')).1=0/\(((k.clear (num+1) 0).2.add (num+1) 0 1 (ap arrays' bs' ps')).2.note (num+1)).1=0/\
 wZ (((k.clear (num+1) 0).2.add (num+1) 0 1 (ap arrays' bs' ps')).2.note (num+1)).2 (num+1) (0+1+aG (ap arrays' bs' ps')) arrays' bs' ps' []/\
 (((k.clear (num+1) 0).2.add (num+1) 0 1 (ap arrays' bs' ps')).2.note (num+1)).2.n=k.n/\(((k.clear (num+1) 0).2.add (num+1) 0 1 (ap arrays' bs' ps')).2.note (num+1)).2.st=k.st/\
 gz (k.clear (num+1) 0).2 (num+1) 0 1 (ap arrays' bs' ps')/\((k.clear (num+1) 0).2.add (num+1) 0 1 (ap arrays' bs' ps')).2.pend=[]:=by
 have hn2:=h.n2
 have hnum:=h.num0
 generalize hB:ap arrays' bs' ps'=B at *
 obtain⟨c1,c2,c3,c4,c5,c6,c7⟩:=h.cl.clear (num:=num+1) (by omega) (by omega) (i:=0) (by omega)
 generalize hK1:(k.clear (num+1) 0).2=k1 at *
 have hh1:k1.half=k.half:=Dk.half_n c3
 have hb1:k1.base (num+1)=k.base (num+1):=Dk.base_n c3 _
 have hhl:=k.half_le
 obtain⟨a1,a2,a3,a4,a5,a6,a7,a8,a9⟩:=c2.add (num:=num+1) (nxt:=0) (q:=1) (b:=B) (by omega) (by omega) (by rw[hh1];omega)
 generalize hK2:(k1.add (num+1) 0 1 B).2=k2 at *
 obtain⟨t1,t2,t3,t4,t5,t6,t7⟩:=a2.note (num:=num+1) (by rw[a3,c3];omega)
 generalize hK3:(k2.note (num+1)).2=k3 at *
 have hn3:k3.n=k.n:=t3.trans (a3.trans c3)
 have hb3:k3.base (num+1)=k.base (num+1):=Dk.base_n hn3 _
 have hh3:k3.half=k.half:=Dk.half_n hn3
 have hbase:2<=k.base (num+1):=by unfold Dk.base;omega
 rw[hb1]at a5 a6 a7
 have hpar:((num+1)%2).toNat=1 - (num%2).toNat/\1 - ((num+1)%2).toNat=(num%2).toNat/\(num%2).toNat<=1:=by omega
 refine⟨c1,a1,t1,⟨t2,by rw[hn3];exact hn2,by omega,hnum1,?_,?_,t7⟩,hn3,t4.trans (a4.trans c4),a9 (by rw[h.pend]at c7;simp at c7;omega),a8⟩
 ·refine⟨t5,.inr ⟨num,by omega,by omega,?_⟩⟩
  rw[hpar.2.1,t6 _ (by omega),a7 _ (.inl (by omega)),c6 _ (.inl (by omega))]
  exact h.note.1
 ·rw[hb3,hh3,hB]
  refine⟨⟨?_,fun j hj=>?_⟩,by dsimp only;omega,hl,rfl,fun j h1 h2=>?_⟩
  ·rw[t6 _ (by omega)];exact a5
  ·rw[t6 _ (by omega)]
   exact a6 j hj
  ·rw[t6 _ (by omega),a7 _ (.inr (by dsimp only at h1;omega))]
   exact c5 j (by omega) h2
end Go.Vc
namespace Go.Vc
open Go Go.Proofs
theorem wZ.opened{k:Dk}{num:Int}{nxt:Nat}{arrays:List Nm}{bs:List bH}{ps:List (Pl×dE)}{bt:List Bt}(h:wZ k num nxt arrays bs ps bt):
 k.newest=num/\xY k num 0 ((1,ap arrays bs ps)::bt.map fun b=>(2,cD arrays b)) nxt/\(k.clear num nxt).1=0/\(k.clear num nxt).2.st=k.st/\(k.clear num nxt).2.n=k.n/\(∀st',wZ { (k.clear num nxt).2 with st:=st' } num nxt arrays bs ps bt):=by
 have hn2:=h.n2
 have hnum:=h.num0
 have hnx:=h.log.half_le (by simp)
 have hnew:=yl h.num0 (by have:=h.num1;omega) h.note
 have hrec:=h.log.recs h.cl.on (by omega) (by omega)
 have hz:∀{rs:List (Int×List Int)} {i e:Nat},lL k.now (k.base num) k.half i rs e->∀j,e<=j->j<k.half->aF k.now (k.base num+j)=bK:=by
  intro rs
  induction rs with
  |nil=>intro i e hl j h1 h2;obtain⟨rfl,hz⟩:=hl;exact hz j h1 h2
  |cons q r ih=>intro i e hl j h1 h2;exact ih hl.2.2.2 j h1 h2
 have hz:=hz h.log
 have hcl:∀(f i:Nat),nxt<=i->i+f<=k.half->Dk.clearL num f i false k=(0,k):=by
  intro f
  induction f with
  |zero=>intro i _ _;rw[Dk.clearL];rfl
  |succ f ih =>
   intro i h1 h2
   have hle:=Cl.base_le (k:=k) (num:=num) (by omega) (by omega) (i:=i) (by omega)
   rw[Dk.clearL,if_neg (by rw[h.cl.readE hle];simp),hz i h1 (by omega),if_neg (by decide)]
   exact ih (i+1) (by omega) (by omega)
 have e:k.clear num nxt=(0,k):=hcl _ _ (Nat.le_refl _) (by omega)
 rw[e]
 exact⟨hnew,hrec,rfl,rfl,rfl,fun st'=>⟨⟨h.cl.on,h.cl.fu,h.cl.len,h.cl.co⟩,h.n2,h.num0,h.num1,h.note,h.log,h.pend⟩⟩
end Go.Vc
namespace Go.Vc
open Go Go.Proofs
open Go.Value Go.Ending Go.IntKind
set_option maxRecDepth 100000
section
variable{w:World}{R:Ending->World->Prop}
theorem xh{s:ByteArray}
 (h :
 R (returned (bv (decide ((↑s.size:Int)<=(40:Int))))) w):Calls Zz 150 #[string s] w R :=
 fz {} [av (.string s)] Tryz.func150 h
theorem uQ{aa:Option Addr}{an ac:Nat}{ba:Option Addr}{bn bc:Nat}
 (h :
 (¬(10:Int)<(↑an:Int)->((10:Int)<(↑bn:Int)->R (returned (bv false)) w)/\(¬(10:Int)<(↑bn:Int)->∃(P1:LP)(P2:LM),P1 [iv 0] w/\∀n1 w1,P1 [iv n1] w1->(n1<(↑an:Int)->Ad aa n1 an fun d1=>∃s1,ao w1 ((d1.add (n1.toNat*3)).add 0) [string s1]/\ag Zz 150 #[string s1] w1 fun e1 w2 =>
 ∃b1,e1=returned (bv b1)/\KpL [] w1 w2/\((!b1)=true->R (returned (bv false)) w2)/\((!b1)=false->ar i64 (n1+1)/\P1 [iv (n1+1)] w2/\P2 [iv (n1+1)] w2<P2 [iv n1] w1))/\(¬n1<(↑an:Int)->∃(P3:LP) (P4:LM),P3 [iv 0] w1/\∀n2 w3,P3 [iv n2] w3->(n2<(↑bn:Int)->Ad ba n2 bn fun d2=>∃s2,ao w3 ((d2.add (n2.toNat*2)).add 0) [string s2]/\ag Zz 150 #[string s2] w3 fun e2 w4 =>
 ∃b2,e2=returned (bv b2)/\KpL [] w3 w4/\((!b2)=true->R (returned (bv false)) w4)/\((!b2)=false->ar i64 (n2+1)/\P3 [iv (n2+1)] w4/\P4 [iv (n2+1)] w4<P4 [iv n2] w3))/\(¬n2<(↑bn:Int)->R (returned (bv true)) w3))))/\((10:Int)<(↑an:Int)->R (returned (bv false)) w)):Calls Zz 101 #[slice aa an ac,slice ba bn bc] w R :=
 fz { loops:=[⟨9,[6],[4]++rg 28 13,[]⟩,⟨4,[5],[4]++rg 15 13,[]⟩] } [av (.slice aa an ac),av (.slice ba bn bc)] Tryz.func101 h
theorem yP{aa:Option Addr}{an ac:Nat}{n:Int}
 (h :
 (n<(↑an:Int)->R (returned (bv false)) w)/\(¬n<(↑an:Int)->∃(P1:LP)(P2:LM),P1 [iv 0] w/\∀n1 w1,P1 [iv n1] w1->(n1<(↑an:Int)->Ad aa n1 an fun d1=>∃a1 k1 k2,ao w1 ((d1.add (n1.toNat*2)).add 0) [slice a1 k1 k2]/\(¬(10:Int)<(↑k1:Int)->Ad aa n1 an fun d2=>∃a2 k3 k4,ao w1 ((d2.add (n1.toNat*2)).add 1) [slice a2 k3 k4]/\((10:Int)<(↑k3:Int)->R (returned (bv false)) w1)/\(¬(10:Int)<(↑k3:Int)->∃(P3:LP) (P4:LM),P3 [iv 0] w1/\∀n2 w2,P3 [iv n2] w2->Ad aa n1 an fun d3=>∃a3 k5 k6,ao w2 ((d3.add (n1.toNat*2)).add 1) [slice a3 k5 k6]/\(n2<(↑k5:Int)->Ad aa n1 an fun d4=>∃a4 k7 k8,ao w2 ((d4.add (n1.toNat*2)).add 1) [slice a4 k7 k8]/\Ad a4 n2 k7 fun d5=>∃s1,ao w2 ((d5.add (n2.toNat*4)).add 3) [string s1]/\ag Zz 150 #[string s1] w2 fun e1 w3 =>
 ∃b1,e1=returned (bv b1)/\KpL [] w2 w3/\((!b1)=true->R (returned (bv false)) w3)/\((!b1)=false->ar i64 (n2+1)/\P3 [iv (n2+1)] w3/\P4 [iv (n2+1)] w3<P4 [iv n2] w2))/\(¬n2<(↑k5:Int)->ar i64 (n1+1)/\P1 [iv (n1+1)] w2/\P2 [iv (n1+1)] w2<P2 [iv n1] w1)))/\((10:Int)<(↑k1:Int)->R (returned (bv false)) w1))/\(¬n1<(↑an:Int)->R (returned (bv true)) w1))):Calls Zz 102 #[slice aa an ac,iv n] w R :=
 fz { loops:=[⟨9,[6],[4]++rg 33 21,[]⟩,⟨4,[5],[4,6]++rg 11 43,[]⟩] } [av (.slice aa an ac),av (iv n)] Tryz.func102 h
theorem CD{xxa:Option Addr}{xxn xxc:Nat}{xya:Option Addr}{xyn xyc:Nat}{xza:Option Addr}{xzn xzc:Nat}{n:Int}
 (h :
 ∀k1,w.heap.size<=k1->∀w1,KpL [] w w1->ag Zz 101 #[slice xxa xxn xxc,slice xya xyn xyc] w1 fun e1 w2 =>
 ∃b1,e1=returned (bv b1)/\KpL [] w1 w2/\(b1=true->ag Zz 102 #[slice xza xzn xzc,iv n] w2 fun e2 w3 =>
 ∃b2,e2=returned (bv b2)/\KpL [] w2 w3/\R (returned (bv b2)) w3)/\(b1=false->R (returned (bv false)) w2)):Calls Zz 44 #[agg #[slice xxa xxn xxc,slice xya xyn xyc,slice xza xzn xzc],iv n] w R :=
 fz {} [.a (.agg [.v (.slice xxa xxn xxc),.v (.slice xya xyn xyc),.v (.slice xza xzn xzc)]),av (iv n)] Tryz.func44 h
theorem De{dba:Option Addr}{dbn dbc:Nat}
 (h :
 ((4:Int)<(↑dbn:Int)->R (returned (bv false)) w)/\(¬(4:Int)<(↑dbn:Int)->∃(P1:LP)(P2:LM),P1 [iv 0] w/\∀n1 w1,P1 [iv n1] w1->(n1<(↑dbn:Int)->Ad dba n1 dbn fun d1=>∃s1,ao w1 ((d1.add (n1.toNat*4)).add 0) [string s1]/\(¬(40:Int)<(↑s1.size:Int)->Ad dba n1 dbn fun d2=>∃a1 k1 k2 a2 k3 k4 a3 k5 k6,ao w1 ((d2.add (n1.toNat*4)).add 1) [slice a1 k1 k2,slice a2 k3 k4,slice a3 k5 k6]/\ag Zz 44 (#[agg #[slice a1 k1 k2,slice a2 k3 k4,slice a3 k5 k6],iv 8]) w1 fun e1 w2 =>
 ∃b1,e1=returned (bv b1)/\KpL [] w1 w2/\((!b1)=true->R (returned (bv false)) w2)/\((!b1)=false->ar i64 (n1+1)/\P1 [iv (n1+1)] w2/\P2 [iv (n1+1)] w2<P2 [iv n1] w1))/\((40:Int)<(↑s1.size:Int)->R (returned (bv false)) w1))/\(¬n1<(↑dbn:Int)->R (returned (bv true)) w1))):Calls Zz 8 #[slice dba dbn dbc] w R :=
 fz { loops:=[⟨4,[3],[2]++rg 7 22,[]⟩] } [av (.slice dba dbn dbc)] Tryz.func8 h
theorem uZ{tok:ByteArray}{stp:Int}{arn:ByteArray}{ca:Option Addr}{cn cc:Nat}
 (h :
 ∀k1,w.heap.size<=k1->(¬(40:Int)<(↑tok.size:Int)->(¬(40:Int)<(↑arn.size:Int)->((20:Int)<(↑cn:Int)->∀w1,KpL [] w w1->R (returned (bv false)) w1)/\(¬(20:Int)<(↑cn:Int)->∃(P1:LP)(P2:LM),(∀w2,KpL [] w w2->P1 [iv 0] w2)/\∀n1 w3,P1 [iv n1] w3->(n1<(↑cn:Int)->Ad ca n1 cn fun d1=>∃a1 k2 k3 a2 k4 k5,ao w3 (d1.add (n1.toNat*2)) [slice a1 k2 k3,slice a2 k4 k5]/\∀k6,w3.heap.size<=k6->∀w4,KpL [] w3 w4->Hb w4 k6 #[slice a1 k2 k3,slice a2 k4 k5] 147->ag Zz 44 (#[agg #[slice none 0 0,slice none 0 0,sK k6 1 1],iv 1]) w4 fun e1 w5 =>
 ∃b1,e1=returned (bv b1)/\KpL [] w4 w5/\((!b1)=true->R (returned (bv false)) w5)/\((!b1)=false->ar i64 (n1+1)/\P1 [iv (n1+1)] w5/\P2 [iv (n1+1)] w5<P2 [iv n1] w3))/\(¬n1<(↑cn:Int)->R (returned (bv true)) w3)))/\((40:Int)<(↑arn.size:Int)->∀w6,KpL [] w w6->R (returned (bv false)) w6))/\((40:Int)<(↑tok.size:Int)->∀w7,KpL [] w w7->R (returned (bv false)) w7)):Calls Zz 18 #[agg #[string tok,iv stp,string arn,slice ca cn cc]] w R :=
 fz { loops:=[⟨4,[3],[2]++rg 20 16,[]⟩] } [.a (.agg [.v (.string tok),.v (iv stp),.v (.string arn),.v (.slice ca cn cc)])] Tryz.func18 h
theorem CL{n:Int}
 (h :
 ∀k1,w.heap.size<=k1->∀w1,KpL [] w w1->Hb w1 k1 #[iv 2,iv n,iv 1,string (ByteArray.mk #[])] 161->R (returned (sK k1 1 1)) w1):Calls Zz 91 #[iv n] w R :=
 fz {} [av (iv n)] Tryz.func91 h
theorem zG{n:Int}
 (h :
 ∀k1,w.heap.size<=k1->∀w1,KpL [] w w1->Hb w1 k1 #[iv 2,iv n,iv 1,string (ByteArray.mk #[])] 161->R (returned (sK k1 1 1)) w1):Calls Zz 149 #[iv n] w R :=
 fz {} [av (iv n)] Tryz.func149 h
theorem yg{t:ByteArray}{n:Int}{ca:Option Addr}{cn cc:Nat}
 (h :
 ∀k1,w.heap.size<=k1->∀w1,KpL [] w w1->R (returned (agg #[string t,iv n,string (ByteArray.mk #[116]),slice ca cn cc])) w1):Calls Zz 25 #[string t,iv n,slice ca cn cc] w R :=
 fz {} [av (.string t),av (iv n),av (.slice ca cn cc)] Tryz.func25 h
theorem DP{x:Int}{y:Int}{na:Option Addr}{nn nc:Nat}
 (h :
 ∀k1,w.heap.size<=k1->∀k2,w.heap.size<=k2->∀k3,w.heap.size<=k3->((0:Int)<(↑nn:Int)->∃d1,na=some d1/\(0:Int)<=(0:Int)/\(0:Int)<(↑nn:Int)/\∃n1,ao w (d1.add (Int.toNat 0*1)) [iv n1]/\∀w1,KpL [] w w1->Hb w1 k3 #[sK k2 2 2,slice none 0 0] 81/\Hb w1 k2 #[iv x,iv y] 3/\Hb w1 k1 #[slice none 0 0,slice none 0 0] 81->ag Zz 91 #[iv n1] w1 fun e1 w2 =>
 ∃a1 k4 k5,e1=returned (slice a1 k4 k5)/\KpL [] w1 w2/\∀w3,KpL [k1,k3] w2 w3->Hb w3 k3 #[sK k2 2 2,slice a1 k4 k5] 81/\Hb w3 k2 #[iv x,iv y] 3/\Hb w3 k1 #[sK k2 2 2,slice a1 k4 k5] 81->R (returned (agg #[sK k2 2 2,slice a1 k4 k5])) w3)/\(¬(0:Int)<(↑nn:Int)->∀w4,KpL [] w w4->Hb w4 k3 #[sK k2 2 2,slice none 0 0] 81/\Hb w4 k2 #[iv x,iv y] 3/\Hb w4 k1 #[sK k2 2 2,slice none 0 0] 81->R (returned (agg #[sK k2 2 2,slice none 0 0])) w4)):Calls Zz 26 #[iv x,iv y,slice na nn nc] w R :=
 fz { all:=true } [av (iv x),av (iv y),av (.slice na nn nc)] Tryz.func26 h
theorem C8{s:Nat}{tok:ByteArray}{stp:Int}{arn:ByteArray}{ca:Option Addr}{cn cc:Nat}
 (h :
 ∀k1,w.heap.size<=k1->∀w1,KpL [] w w1->ag Zz 13 (#[pK s,agg #[string tok,iv stp,string arn,slice ca cn cc]]) w1 fun e1 w2 =>
 ∃b1 n1,e1=returned (tuple #[bv b1,iv n1])/\∃l1,KpL l1 w1 w2/\af k1 l1/\(b1=true->R (returned (bv (decide (n1=0)))) w2)/\(b1=false->R (returned (bv false)) w2)):Calls Zz 27 #[pK s,agg #[string tok,iv stp,string arn,slice ca cn cc]] w R :=
 fz { muts:=[13] } [av (pK s),.a (.agg [.v (.string tok),.v (iv stp),.v (.string arn),.v (.slice ca cn cc)])] Tryz.func27 h
theorem yf{u:Nat}
 (h :
 ∀k1,w.heap.size<=k1->∀k2,w.heap.size<=k2->∀k3,w.heap.size<=k3->∀k4,w.heap.size<=k4->cR Zz 149/\∀w1,KpL [] w w1->Hb w1 k4 #[iv 0,iv 0] 3/\Hb w1 k3 #[string (ByteArray.mk #[118]),iv 2] 156/\Hb w1 k2 #[string (ByteArray.mk #[120]),iv 0,iv 3,string (ByteArray.mk #[121]),iv 0,iv 1] 153/\Hb w1 k1 #[slice none 0 0,slice none 0 0,slice none 0 0] 58->ag Zz 149 #[iv 5] w1 fun e1 w2 =>
 ∃a1 k5 k6,e1=returned (slice a1 k5 k6)/\∃l1,KpL l1 w1 w2/\(af k4 l1/\af k3 l1/\af k2 l1/\af k1 l1)/\∀k7,w2.heap.size<=k7->cR Zz 149/\∀w3,KpL [] w2 w3->Hb w3 k7 #[iv 1,iv 0] 3/\Hb w3 k4 #[iv 0,iv 0] 3/\Hb w3 k3 #[string (ByteArray.mk #[118]),iv 2] 156/\Hb w3 k2 #[string (ByteArray.mk #[120]),iv 0,iv 3,string (ByteArray.mk #[121]),iv 0,iv 1] 153/\Hb w3 k1 #[slice none 0 0,slice none 0 0,slice none 0 0] 58->ag Zz 149 #[iv 7] w3 fun e2 w4 =>
 ∃a2 k8 k9,e2=returned (slice a2 k8 k9)/\∃l2,KpL l2 w3 w4/\(af k7 l2/\af k4 l2/\af k3 l2/\af k2 l2/\af k1 l2)/\∀k10,w4.heap.size<=k10->∀k11,w4.heap.size<=k11->∀k12,w4.heap.size<=k12->cR Zz 149/\∀w5,KpL [] w4 w5->Hb w5 k12 #[iv 3,iv 1] 3/\Hb w5 k11 #[iv 0,iv 1,iv 0,string (ByteArray.mk #[])] 161/\Hb w5 k10 #[iv 1,iv 1] 3/\Hb w5 k7 #[iv 1,iv 0] 3/\Hb w5 k4 #[iv 0,iv 0] 3/\Hb w5 k3 #[string (ByteArray.mk #[118]),iv 2] 156/\Hb w5 k2 #[string (ByteArray.mk #[120]),iv 0,iv 3,string (ByteArray.mk #[121]),iv 0,iv 1] 153/\Hb w5 k1 #[slice none 0 0,slice none 0 0,slice none 0 0] 58->ag Zz 149 #[iv 2] w5 fun e3 w6 =>
 ∃a3 k13 k14,e3=returned (slice a3 k13 k14)/\∃l3,KpL l3 w5 w6/\(af k12 l3/\af k11 l3/\af k10 l3/\af k7 l3/\af k4 l3/\af k3 l3/\af k2 l3/\af k1 l3)/\∀k15,w6.heap.size<=k15->∀w7,KpL [k1] w6 w7->Hb w7 k15 #[sK k4 2 2,slice a1 k5 k6,sK k7 2 2,slice a2 k8 k9,sK k10 2 2,sK k11 1 1,sK k12 2 2,slice a3 k13 k14] 147/\Hb w7 k12 #[iv 3,iv 1] 3/\Hb w7 k11 #[iv 0,iv 1,iv 0,string (ByteArray.mk #[])] 161/\Hb w7 k10 #[iv 1,iv 1] 3/\Hb w7 k7 #[iv 1,iv 0] 3/\Hb w7 k4 #[iv 0,iv 0] 3/\Hb w7 k3 #[string (ByteArray.mk #[118]),iv 2] 156/\Hb w7 k2 #[string (ByteArray.mk #[120]),iv 0,iv 3,string (ByteArray.mk #[121]),iv 0,iv 1] 153/\Hb w7 k1 #[sK k2 2 2,sK k3 1 1,sK k15 4 4] 58->R (returned (agg #[sK k2 2 2,sK k3 1 1,sK k15 4 4])) w7):Calls Zz 96 #[] w R :=
 fz { all:=true } [] Tryz.func96 h
theorem tN{u:Nat}
 (h :
 ag Zz 96 #[] w fun e1 w1 =>
 ∃a1 k1 k2 a2 k3 k4 a3 k5 k6,e1=returned (agg #[slice a1 k1 k2,slice a2 k3 k4,slice a3 k5 k6])/\KpL [] w w1/\∀k7,w1.heap.size<=k7->∀k8,w1.heap.size<=k8->∀w2,KpL [] w1 w2->Hb w2 k8 #[string (ByteArray.mk #[116]),slice a1 k1 k2,slice a2 k3 k4,slice none 0 0] 60->R (returned (sK k8 1 1)) w2):Calls Zz 36 #[] w R :=
 fz {} [] Tryz.func36 h
end
end Go.Vc
namespace Go.Vc
open Go Go.Proofs
def oW(P:Prop)(w:World)(e:Ending)(w':World):Prop:=∃b:Bool,e=.returned (.bool b)/\KpL [] w w'/\(b=true->P)
theorem oW.no{P:Prop}{w w':World}(k:KpL [] w w'):oW P w (.returned (.bool false)) w':=⟨false,rfl,k,fun h=>by cases h⟩
theorem oW.yes{P:Prop}{w w':World}(k:KpL [] w w')(h:P):oW P w (.returned (.bool true)) w':=⟨true,rfl,k,fun _=>h⟩
theorem lH(s:ByteArray)(w:World):Calls Zz 150 #[.string s] w (oW True w):=xh ⟨_,rfl,KpL.refl _ _,fun _=>trivial⟩
theorem uW{M1 M2:List Nat}{w:World}{ds:List dI}{ats:List cI}{a b:Option Addr}{n c m r:Nat}(h1:R (au bY) M1 w ds [.slice a n c])(h2:R (au bw) M2 w ats [.slice b m r]):Calls Zz 101 #[.slice a n c,.slice b m r] w (oW True w):=by
 obtain⟨rfl,_,_⟩:=h1.sl_len
 obtain⟨rfl,_,_⟩:=h2.sl_len
 have hmx:az=140737488355328:=rfl
 refine uQ ⟨fun g1=>⟨fun _=>.no (KpL.refl _ _),fun g2=>?_⟩,fun _=>.no (KpL.refl _ _)⟩
 refine⟨fun vs w'=>∃i:Nat,vs=[iv (i:Int)]/\i<=ds.length/\KpL [] w w',fun vs _=>match vs with|[.int _ i]=>ds.length - i.toNat|_=>0,⟨0,rfl,by omega,KpL.refl _ _⟩,?_⟩
 rintro n1 w1 ⟨i,hv,hi,hk⟩
 obtain rfl:=v1 hv
 constructor
 ·intro hlt
  obtain⟨ad,cs,rfl,hv1,_,_,_,hpt⟩:=(h1.kp0 hk).sl_get2 (i:=i) (by omega)
  obtain⟨rfl,_⟩:=hv1.dim
  refine⟨ad,rfl,by omega,hlt,_,hpt 0 [_] rfl,⟨(lH _ w1).mono ?_⟩⟩
  rintro e w2 ⟨bb,rfl,hk2,_⟩
  exact⟨_,rfl,hk2,fun _=>.no (hk.trans hk2),fun _=>⟨ae.2 (by omega),⟨i+1,rfl,by omega,hk.trans hk2⟩,by dsimp only;omega⟩⟩
 ·intro _
  refine⟨fun vs w'=>∃i:Nat,vs=[iv (i:Int)]/\i<=ats.length/\KpL [] w w',fun vs _=>match vs with|[.int _ i]=>ats.length - i.toNat|_=>0,⟨0,rfl,by omega,hk⟩,?_⟩
  rintro n1 w3 ⟨j,hv,hj,hk3⟩
  obtain rfl:=v1 hv
  constructor
  ·intro hlt
   obtain⟨ad,cs,rfl,hv1,_,_,_,hpt⟩:=(h2.kp0 hk3).sl_get2 (i:=j) (by omega)
   obtain⟨rfl,_⟩:=hv1.attr
   refine⟨ad,rfl,by omega,hlt,_,hpt 0 [_] rfl,⟨(lH _ w3).mono ?_⟩⟩
   rintro e w4 ⟨bb,rfl,hk4,_⟩
   exact⟨_,rfl,hk4,fun _=>.no (hk3.trans hk4),fun _=>⟨ae.2 (by omega),⟨j+1,rfl,by omega,hk3.trans hk4⟩,by dsimp only;omega⟩⟩
  ·intro _
   exact .yes hk3 trivial
theorem wY{M:List Nat}{w:World}{cs:List aR}{a:Option Addr}{n c:Nat}{k:Int}(h:R (au aC) M w cs [.slice a n c]):Calls Zz 102 #[.slice a n c,iv k] w (oW ((cs.length:Int)<=k) w):=by
 obtain⟨rfl,_,_⟩:=h.sl_len
 have hmx:az=140737488355328:=rfl
 refine yP ⟨fun _=>.no (KpL.refl _ _),fun g1=>?_⟩
 refine⟨fun vs w'=>∃i:Nat,vs=[iv (i:Int)]/\i<=cs.length/\KpL [] w w',fun vs _=>match vs with|[.int _ i]=>cs.length - i.toNat|_=>0,⟨0,rfl,by omega,KpL.refl _ _⟩,?_⟩
 rintro n1 w1 ⟨i,hv,hi,hk⟩
 obtain rfl:=v1 hv
 constructor
 ·intro hlt
  have get:∀{w':World},KpL [] w w'->∃ad a1 k1 k2 a2 k3 k4,a=some ad/\R (au cv) M w' cs[i].vals [.slice a2 k3 k4]/\ao w' ((ad.add (i*2)).add 0) [.slice a1 k1 k2]/\ao w' ((ad.add (i*2)).add 1) [.slice a2 k3 k4]:=by
   intro w' hk'
   obtain⟨ad,cs',rfl,hv1,_,_,_,hpt⟩:=(h.kp0 hk').sl_get2 (i:=i) (by omega)
   obtain⟨a1,k1,k2,a2,k3,k4,rfl,_,y2⟩:=hv1.cell
   exact⟨ad,a1,k1,k2,a2,k3,k4,rfl,y2,hpt 0 [_] rfl,hpt 1 [_] rfl⟩
  obtain⟨ad,a1,k1,k2,a2,k3,k4,rfl,y2,l1,l2⟩:=get hk
  refine⟨ad,rfl,by omega,hlt,a1,k1,k2,l1,fun _=>⟨ad,rfl,by omega,hlt,a2,k3,k4,l2,fun _=>.no hk,fun _=>?_⟩,fun _=>.no hk⟩
  refine⟨fun vs w'=>∃j:Nat,vs=[iv (j:Int)]/\j<=cs[i].vals.length/\KpL [] w w',fun vs _=>match vs with|[.int _ j]=>cs[i].vals.length - j.toNat|_=>0,⟨0,rfl,by omega,hk⟩,?_⟩
  rintro n2 w2 ⟨j,hv,hj,hk2⟩
  obtain rfl:=v1 hv
  obtain⟨ad',b1,q1,q2,b2,q3,q4,had,z2,m1,m2⟩:=get hk2
  simp only[Option.some.injEq]at had
  subst had
  obtain⟨hq3,_,hqm⟩:=z2.sl_len
  refine⟨ad,rfl,by omega,hlt,b2,q3,q4,m2,fun hjl=>?_,fun _=>⟨ae.2 (by omega),⟨i+1,rfl,by omega,hk2⟩,by dsimp only;omega⟩⟩
  obtain⟨ad5,cs5,rfl,hv5,_,_,_,hpt5⟩:=z2.sl_get2 (i:=j) (by omega)
  obtain⟨rfl,_⟩:=hv5.val
  refine⟨ad,rfl,by omega,hlt,_,q3,q4,m2,ad5,rfl,by omega,hjl,_,hpt5 3 [_] rfl,⟨(lH _ w2).mono ?_⟩⟩
  rintro e w3 ⟨bb,rfl,hk3,_⟩
  exact⟨_,rfl,hk3,fun _=>.no (hk2.trans hk3),fun _=>⟨ae.2 (by omega),⟨j+1,rfl,by omega,hk2.trans hk3⟩,by dsimp only;omega⟩⟩
 ·intro _
  exact .yes hk (by omega)
theorem vW{M1 M2 M3:List Nat}{w:World}{x:zj}{a1 a2 a3:Option Addr}{n1 c1 n2 c2 n3 c3:Nat}{k:Int}(h1:R (au bY) M1 w x.dims [.slice a1 n1 c1])(h2:R (au bw) M2 w x.attrs [.slice a2 n2 c2])(h3:R (au aC) M3 w x.cells [.slice a3 n3 c3]):
 Calls Zz 44 #[.agg #[.slice a1 n1 c1,.slice a2 n2 c2,.slice a3 n3 c3],iv k] w (oW ((x.cells.length:Int)<=k) w):=by
 refine CD fun k1 hk1 w1 hw1=>⟨(uW (h1.kp0 hw1) (h2.kp0 hw1)).mono ?_⟩
 rintro e w2 ⟨b,rfl,hw2,_⟩
 refine⟨_,rfl,hw2,fun _=>⟨(wY (k:=k) (h3.kp0 (hw1.trans hw2))).mono ?_⟩,fun _=>.no (hw1.trans hw2)⟩
 rintro e w3 ⟨b2,rfl,hw3,hh⟩
 exact⟨_,rfl,hw3,b2,rfl,(hw1.trans hw2).trans hw3,hh⟩
theorem C0{M:List Nat}{w:World}{db:List Nm}{a:Option Addr}{n c:Nat}(h:R (au gG) M w db [.slice a n c]):Calls Zz 8 #[.slice a n c] w (oW (db.length<=4/\∀x∈db,x.arr.cells.length<=8) w):=by
 obtain⟨rfl,_,_⟩:=h.sl_len
 have hmx:az=140737488355328:=rfl
 refine De ⟨fun _=>.no (KpL.refl _ _),fun g1=>?_⟩
 refine⟨fun vs w'=>∃i:Nat,vs=[iv (i:Int)]/\i<=db.length/\KpL [] w w'/\∀x∈db.take i,x.arr.cells.length<=8,fun vs _=>match vs with|[.int _ i]=>db.length - i.toNat|_=>0,⟨0,rfl,by omega,KpL.refl _ _,by simp⟩,?_⟩
 rintro n1 w1 ⟨i,hv,hi,hk,hall⟩
 obtain rfl:=v1 hv
 constructor
 ·intro hlt
  have gi:i<db.length:=by omega
  obtain⟨ad,cs',rfl,hv1,_,_,_,hpt⟩:=(h.kp0 hk).sl_get2 gi
  obtain⟨b1,p1,q1,b2,p2,q2,b3,p3,q3,rfl,hsz,x1,x2,x3⟩:=hv1.nm
  refine⟨ad,rfl,by omega,hlt,_,hpt 0 [_] rfl,fun _=>⟨ad,rfl,by omega,hlt,_,_,_,_,_,_,_,_,_,hpt 1 [_,_,_] rfl,⟨(vW (k:=8) x1 x2 x3).mono ?_⟩⟩,fun _=>.no hk⟩
  rintro e w2 ⟨b,rfl,hw2,hh⟩
  refine⟨_,rfl,hw2,fun _=>.no (hk.trans hw2),fun hb=>⟨ae.2 (by omega),⟨i+1,rfl,by omega,hk.trans hw2,fun x hx=>?_⟩,by dsimp only;omega⟩⟩
  rw[<-List.take_append_getElem gi]at hx
  rcases List.mem_append.1 hx with hx|hx
  ·exact hall x hx
  ·simp at hx
   subst hx
   have:=hh (eP hb)
   omega
 ·intro hge
  refine .yes hk ⟨by omega,fun x hx=>hall x ?_⟩
  rw[List.take_of_length_le (by omega)]
  exact hx
end Go.Vc
namespace Go.Vc
open Go Go.Proofs
def B8:Ty Bt:=tM (fun b=>((b.token,b.stamp),(b.array,b.changes))) (tP (tP tS (tI .i64)) (tP tS (au aC)))
theorem R.bt{M:List Nat}{w:World}{b:Bt}{cs:List Value}(h:R B8 M w b cs):∃a n c,cs=[.string b.token,iv b.stamp,.string b.array,.slice a n c]/\b.token.size<=9223372036854775807/\ar .i64 b.stamp/\b.array.size<=9223372036854775807/\R (au aC) M w b.changes [.slice a n c]:=by
 obtain⟨x,y,rfl,⟨x1,x2,rfl,⟨rfl,h1⟩,⟨rfl,h2⟩⟩,⟨y1,y2,rfl,⟨rfl,h3⟩,h4⟩⟩:=h
 obtain⟨a,c,rfl⟩:=R.sl_form (M:=M) (w:=w) h4
 exact⟨_,_,_,rfl,h1,h2,h3,h4⟩
theorem R.mkBt{M:List Nat}{w:World}{b:Bt}{a:Option Addr}{n c:Nat}(h1:b.token.size<=9223372036854775807)(h2:ar .i64 b.stamp)(h3:b.array.size<=9223372036854775807)(h4:R (au aC) M w b.changes [.slice a n c]):
 R B8 M w b [.string b.token,iv b.stamp,.string b.array,.slice a n c]:=⟨[_,_],[_,_],rfl,⟨[_],[_],rfl,⟨rfl,h1⟩,⟨rfl,h2⟩⟩,⟨[_],_,rfl,⟨rfl,h3⟩,h4⟩⟩
theorem uX{M:List Nat}{w:World}{b:Bt}{a:Option Addr}{n c:Nat}(h:R (au aC) M w b.changes [.slice a n c]):Calls Zz 18 #[.agg #[.string b.token,iv b.stamp,.string b.array,.slice a n c]] w (oW (b.changes.length<=20) w):=by
 obtain⟨rfl,_,_⟩:=h.sl_len
 have hmx:az=140737488355328:=rfl
 refine uZ fun k1 hk1=>⟨fun _=>⟨fun _=>⟨fun _ w1 hw1=>.no hw1,fun g1=>?_⟩,fun _ w6 hw6=>.no hw6⟩,fun _ w7 hw7=>.no hw7⟩
 refine⟨fun vs w'=>∃i:Nat,vs=[iv (i:Int)]/\i<=b.changes.length/\KpL [] w w',fun vs _=>match vs with|[.int _ i]=>b.changes.length - i.toNat|_=>0,fun w2 hw2=>⟨0,rfl,by omega,hw2⟩,?_⟩
 rintro n1 w3 ⟨i,hv,hi,hk⟩
 obtain rfl:=v1 hv
 constructor
 ·intro hlt
  have gi:i<b.changes.length:=by omega
  obtain⟨ad,cs,rfl,hv1,hld,_,_⟩:=(h.kp0 hk).sl_get gi
  obtain⟨a1,k2,k3,a2,k4,k5,rfl,x1,x2⟩:=hv1.cell
  refine⟨ad,rfl,by omega,hlt,_,_,_,_,_,_,hld,fun k6 hk6 w4 hw4 hkn4=>?_⟩
  have hR:R (au aC) [] w4 [b.changes[i]] [sK k6 1 1]:=by
   refine⟨_,_,rfl,Nat.le_refl _,by show(1:Nat)<=140737488355328;omega,fun _=>⟨k6,0,_,147,_,rfl,⟨ab hkn4,by simp⟩,hkn4,fun j y hy=>?_⟩⟩
   cases j with
   |succ j=>simp at hy
   |zero =>
    simp at hy
    subst hy
    refine⟨_,R.mkCell ((x1.kp0 hw4).weak (by simp)) ((x2.kp0 hw4).weak (by simp)),fun t v hv=>?_⟩
    have hsz:(aC).sz=2:=rfl
    rw[hsz]
    match t,hv with
    |0,hv=>simpa using hv
    |1,hv=>simpa using hv
    |t+2,hv=>simp at hv
  refine⟨(vW (x:=⟨[],[],[b.changes[i]]⟩) (k:=1) (R.sl_nil _ [] _ _ _) (R.sl_nil _ [] _ _ _) hR).mono ?_⟩
  rintro e w5 ⟨bb,rfl,hw5,_⟩
  exact⟨_,rfl,hw5,fun _=>.no ((hk.trans hw4).trans hw5),fun _=>⟨ae.2 (by omega),⟨i+1,rfl,by omega,(hk.trans hw4).trans hw5⟩,by dsimp only;omega⟩⟩
 ·intro _
  exact .yes hk (by omega)
end Go.Vc
namespace Go.Vc
open Go Go.Proofs
def qT(n:Int):Vl:=⟨2,n,1,ByteArray.empty⟩
theorem jJ{α:Type}{t:Ty α}{w:World}{k T:Nat}{cs:List Value}{x:α}{M:List Nat}(hk:w.heap[k]?=some (.cells cs.toArray T (0,0)))(hkM:k∉M)(hx:R t M w x cs):R (au t) M w [x] [sK k 1 1]:=by
 refine⟨_,_,rfl,Nat.le_refl _,by show(1:Nat)<=140737488355328;omega,fun _=>⟨k,0,_,T,_,rfl,⟨ab hk,hkM⟩,hk,fun j y hy=>?_⟩⟩
 cases j with
 |succ j=>simp at hy
 |zero =>
  simp at hy
  subst hy
  refine⟨_,hx,fun t' v hv=>?_⟩
  simpa using hv
theorem Ce{M:List Nat}{w:World}(hM:∀b∈M,b<w.heap.size){n:Int}(hn:ar .i64 n):Calls Zz 91 #[iv n] w fun e w'=>∃a c m,e=.returned (.slice a m c)/\KpL [] w w'/\R (au cv) M w' [qT n] [.slice a m c] :=
 CL fun k1 hk1 w1 hw1 hkn=>⟨_,_,_,rfl,hw1,jJ (t:=cv) (x:=qT n) hkn (fun hm=>by have:=hM k1 hm;omega) ⟨rfl,ae.2 (by simp[qT]),hn,ae.2 (by simp[qT]),by simp[qT]⟩⟩
theorem pD(w:World)(t:ByteArray)(n:Int)(a:Option Addr)(m c:Nat):Calls Zz 25 #[.string t,iv n,.slice a m c] w (aA (.agg #[.string t,iv n,.string ⟨#[116]⟩,.slice a m c]) w) :=
 yg fun _ _ w1 hw1=>⟨rfl,hw1⟩
end Go.Vc
namespace Go.Vc
open Go Go.Proofs
theorem Dn{k:IntKind}{w:World}{b T:Nat}{x y:Int}{M:List Nat}(hk:w.heap[b]?=some (.cells #[.int k x,.int k y] T (0,0)))(hkM:b∉M)(hx:ar k x)(hy:ar k y):R (au (tI k)) M w [x,y] [sK b 2 2]:=by
 refine⟨_,_,rfl,Nat.le_refl _,by show(2:Nat)<=140737488355328;omega,fun _=>⟨b,0,_,T,_,rfl,⟨ab hk,hkM⟩,hk,fun j z hz=>?_⟩⟩
 match j,hz with
 |0,hz =>
  simp at hz
  subst hz
  refine⟨_,⟨rfl,hx⟩,fun t v hv=>?_⟩
  match t,hv with
  |0,hv=>simpa using hv
  |t+1,hv=>simp at hv
 |1,hz =>
  simp at hz
  subst hz
  refine⟨_,⟨rfl,hy⟩,fun t v hv=>?_⟩
  match t,hv with
  |0,hv=>simpa[tI]using hv
  |t+1,hv=>simp at hv
 |j+2,hz=>simp at hz
theorem jO{M Mn:List Nat}{w:World}(hM:∀b∈M,b<w.heap.size){x y:Int}{ns:List Int}{a:Option Addr}{n c:Nat}(hx:ar .i64 x)(hy:ar .i64 y)(hn:R (au (tI .i64)) Mn w ns [.slice a n c]):
 Calls Zz 26 #[iv x,iv y,.slice a n c] w fun e w'=>∃a1 n1 c1 a2 n2 c2,e=.returned (.agg #[.slice a1 n1 c1,.slice a2 n2 c2])/\KpL [] w w'/\R aC M w' ⟨[x,y],(ns.take 1).map qT⟩ [.slice a1 n1 c1,.slice a2 n2 c2]:=by
 obtain⟨rfl,_,_⟩:=hn.sl_len
 refine DP fun k1 hk1 k2 hk2 k3 hk3=>⟨fun hpos=>?_,fun hz w4 hw4 hkn4=>?_⟩
 ·have h0:0<ns.length:=by omega
  obtain⟨ad,cs,rfl,hv1,hld,_,_⟩:=hn.sl_get h0
  obtain⟨rfl,hin⟩:=hv1.intD
  refine⟨ad,rfl,by omega,hpos,_,hld,fun w1 hw1 hkn1=>?_⟩
  have b1:=ab hkn1.2.2
  have b2:=ab hkn1.2.1
  have b3:=ab hkn1.1
  refine⟨(Ce (M:=k1::k2::k3::M) (fun b hb=>?_) hin).mono ?_⟩
  ·simp only[List.mem_cons]at hb
   rcases hb with rfl|rfl|rfl|hb
   ·omega
   ·omega
   ·omega
   ·have:=hM b hb;have:=hw1.size;omega
  rintro e w2 ⟨a1,c1,m1,rfl,hw2,hR⟩
  refine⟨_,_,_,rfl,hw2,fun w3 hw3 hkn3=>⟨_,_,_,_,_,_,rfl,(hw1.trans hw2).more hw3 (by simp;omega),R.mkCell (Dn hkn3.2.1 (fun hm=>by have:=hM k2 hm;omega) hx hy) ?_⟩⟩
  have e1:(ns.take 1).map qT=[qT ns[0]]:=by
   cases ns with
   |nil=>simp at h0
   |cons z r=>simp
  dsimp only
  rw[e1]
  exact(hR.kp hw3 (by simp)).weak fun b hb=>by simp[hb]
 ·have h0:ns=[]:=List.eq_nil_of_length_eq_zero (by omega)
  subst h0
  exact⟨_,_,_,_,_,_,rfl,hw4,R.mkCell (Dn hkn4.2.1 (fun hm=>by have:=hM k2 hm;omega) hx hy) (R.sl_nil _ _ _ _ _)⟩
end Go.Vc
namespace Go.Vc
open Go Go.Proofs
theorem uN{α:Type}{t:Ty α}{w:World}{b T:Nat}{c1 c2:List Value}{x y:α}{M:List Nat}(hk:w.heap[b]?=some (.cells (c1++c2).toArray T (0,0)))(hkM:b∉M)(h1:R t M w x c1)(h2:R t M w y c2):R (au t) M w [x,y] [sK b 2 2]:=by
 have l1:c1.length=t.sz:=t.len h1
 refine⟨_,_,rfl,Nat.le_refl _,by show(2:Nat)<=140737488355328;omega,fun _=>⟨b,0,_,T,_,rfl,⟨ab hk,hkM⟩,hk,fun j z hz=>?_⟩⟩
 match j,hz with
 |0,hz =>
  simp at hz
  subst hz
  refine⟨_,h1,fun i v hv=>?_⟩
  have hi:i<c1.length:=(List.getElem?_eq_some_iff.1 hv).1
  simp only[List.toList_toArray,Nat.zero_mul,Nat.zero_add]
  rw[List.getElem?_append_left hi]
  exact hv
 |1,hz =>
  simp at hz
  subst hz
  refine⟨_,h2,fun i v hv=>?_⟩
  simp only[List.toList_toArray,Nat.one_mul,Nat.zero_add]
  rw[List.getElem?_append_right (by omega),l1,Nat.add_sub_cancel_left]
  exact hv
 |j+2,hz=>simp at hz
def Bp:List dI:=[⟨⟨#[120]⟩,0,3⟩,⟨⟨#[121]⟩,0,1⟩]
def wN:List cI:=[⟨⟨#[118]⟩,2⟩]
def CP:Nm:=⟨⟨#[116]⟩,⟨Bp,wN,[]⟩⟩
theorem xg{M:List Nat}{w:World}(hM:∀b∈M,b<w.heap.size):Calls Zz 96 #[] w fun e w'=>∃a1 n1 c1 a2 n2 c2 a3 n3 c3,e=.returned (.agg #[.slice a1 n1 c1,.slice a2 n2 c2,.slice a3 n3 c3])/\KpL [] w w'/\R (au bY) M w' Bp [.slice a1 n1 c1]/\R (au bw) M w' wN [.slice a2 n2 c2]:=by
 have fo:cR Zz 149:=⟨_,_,Tryz.func149,rfl⟩
 have nm:∀(n:Int) (w:World),Calls Zz 149 #[iv n] w fun e w'=>∃a c m,e=.returned (.slice a m c)/\KpL [] w w':=fun n w=>zG fun k1 hk1 w1 hw1 hkn=>⟨_,_,_,rfl,hw1⟩
 refine yf (u:=0) fun k1 hk1 k2 hk2 k3 hk3 k4 hk4=>⟨fo,fun w1 hw1 hkn1=>⟨(nm 5 w1).mono ?_⟩⟩
 rintro e w2 ⟨a1,c1,m1,rfl,hw2⟩
 refine⟨_,_,_,rfl,[],hw2,⟨⟨by simp⟩,⟨by simp⟩,⟨by simp⟩,⟨by simp⟩⟩,fun k7 hk7=>⟨fo,fun w3 hw3 hkn3=>⟨(nm 7 w3).mono ?_⟩⟩⟩
 rintro e w4 ⟨a2,c2,m2,rfl,hw4⟩
 refine⟨_,_,_,rfl,[],hw4,⟨⟨by simp⟩,⟨by simp⟩,⟨by simp⟩,⟨by simp⟩,⟨by simp⟩⟩,fun k10 hk10 k11 hk11 k12 hk12=>⟨fo,fun w5 hw5 hkn5=>⟨(nm 2 w5).mono ?_⟩⟩⟩
 rintro e w6 ⟨a3,c3,m3,rfl,hw6⟩
 refine⟨_,_,_,rfl,[],hw6,⟨⟨by simp⟩,⟨by simp⟩,⟨by simp⟩,⟨by simp⟩,⟨by simp⟩,⟨by simp⟩,⟨by simp⟩,⟨by simp⟩⟩,fun k15 hk15 w7 hw7 hkn7=>?_⟩
 obtain⟨_,_,_,_,_,_,q3,q2,_⟩:=hkn7
 have no:∀k,w.heap.size<=k->k∉M:=fun k hk hm=>by have:=hM k hm;omega
 refine⟨_,_,_,_,_,_,_,_,_,rfl,?_,?_,?_⟩
 ·exact(((((hw1.trans hw2).trans hw3).trans hw4).trans hw5).trans hw6).more hw7 (by simp;omega)
 ·exact uN (t:=bY) (c1:=[_,_,_]) (c2:=[_,_,_]) q2 (no k2 hk2) ⟨rfl,by show(1:Nat)<=140737488355328;omega,ae.2 (by dsimp only;omega),ae.2 (by dsimp only;omega)⟩ ⟨rfl,by show(1:Nat)<=140737488355328;omega,ae.2 (by dsimp only;omega),ae.2 (by dsimp only;omega)⟩
 ·exact jJ (t:=bw) (cs:=[_,_]) q3 (no k3 hk3) ⟨rfl,by show(1:Nat)<=140737488355328;omega,ae.2 (by dsimp only;omega)⟩
theorem sW{M:List Nat}{w:World}(hM:∀b∈M,b<w.heap.size):Calls Zz 36 #[] w fun e w'=>∃a n c,e=.returned (.slice a n c)/\KpL [] w w'/\R (au gG) M w' [CP] [.slice a n c]:=by
 refine tN (u:=0) ⟨(xg hM).mono ?_⟩
 rintro e w1 ⟨a1,n1,c1,a2,n2,c2,a3,n3,c3,rfl,hw1,h1,h2⟩
 refine⟨_,_,_,_,_,_,_,_,_,rfl,hw1,fun k7 hk7 k8 hk8 w2 hw2 hkn2=>⟨_,_,_,rfl,hw1.trans hw2,?_⟩⟩
 exact jJ (t:=gG) (cs:=[_,_,_,_]) hkn2 (fun hm=>by have:=hM k8 hm;have:=hw1.size;omega) (R.mkNm (c:=CP) (by show(1:Nat)<=9223372036854775807;omega) (h1.kp0 hw2) (h2.kp0 hw2) (R.sl_nil _ _ _ _ _))
end Go.Vc
namespace Go.Vc
open Go Go.Proofs
structure gf (s t:bg):Prop where
 arr:s.arrays=t.arrays
 bat:s.batches=t.batches
 pls:s.places.Perm t.places
 us:s.use=t.use
theorem gf.symm{s t:bg}(h:gf s t):gf t s:=⟨h.arr.symm,h.bat.symm,h.pls.symm,h.us.symm⟩
theorem gf.trans{s t u:bg}(h:gf s t)(k:gf t u):gf s u:=⟨h.arr.trans k.arr,h.bat.trans k.bat,h.pls.trans k.pls,h.us.trans k.us⟩
theorem pG{κ β:Type}[DecidableEq κ]{l:List (κ×β)}{k:κ}(h:k∉l.map (·.1)):bQ l k=none:=by
 unfold bQ
 rw[List.find?_eq_none.2]
 ·rfl
 ·intro p hp
  simp only[decide_eq_true_eq]
  rintro rfl
  exact h (List.mem_map.2 ⟨p,hp,rfl⟩)
theorem po{κ β:Type}[DecidableEq κ]{l m:List (κ×β)}(h:l.Perm m)(nd:(l.map (·.1)).Nodup)(k:κ):bQ l k=bQ m k:=by
 have nd':(m.map (·.1)).Nodup:=(h.map _).nodup_iff.1 nd
 by_cases hk:k∈l.map (·.1)
 ·obtain⟨p,hp,rfl⟩:=List.mem_map.1 hk
  rw[fw nd (v:=p.2) hp,fw nd' (v:=p.2) (h.mem_iff.1 hp)]
 ·rw[pG hk,pG fun hm=>hk ((h.map _).mem_iff.2 hm)]
theorem xU{κ β:Type}[DecidableEq κ]{l m:List (κ×β)}(h:l.Perm m)(k:κ)(v:β):(dX l k v).Perm (dX m k v):=by
 unfold dX
 have e:l.any (fun p=>decide (p.1=k))=m.any (fun p=>decide (p.1=k)):=h.any_eq
 rw[e]
 split
 ·exact h.map _
 ·exact h.append_right _
theorem oz{bs:List bH}{n k:Int}:∀{l:List aR} {p q:List (Pl×dE)},p.Perm q->(p.map (·.1)).Nodup->(dp bs n k p l).Perm (dp bs n k q l)
 |[],p,q,h,_=>h
 |c::r,p,q,h,nd=>by
  have h1:(fN bs n k p c).Perm (fN bs n k q c):=by
   unfold fN
   rw[po h nd]
   split
   ·exact xU h _ _
   ·exact h
  have nd1:((fN bs n k p c).map (·.1)).Nodup:=by
   unfold fN
   split
   ·exact wF nd
   ·exact nd
  exact oz (l:=r) h1 nd1
theorem gf.commit{s t:bg}(h:gf s t)(nd:(s.places.map (·.1)).Nodup)(b:Bt):gf (s.commit b) (t.commit b):=by
 refine⟨h.arr,by show s.batches++[b.seen]=t.batches++[b.seen];rw[h.bat],?_,by show s.use+b.weight=t.use+b.weight;rw[h.us]⟩
 show(dp _ _ _ s.places b.changes).Perm (dp _ _ _ t.places b.changes)
 rw[h.bat,h.arr]
 exact oz h.pls nd
theorem rV:∀(bt:List Bt) (st:bg),(st.commits bt).arrays=st.arrays
 |[],_=>rfl
 |b::r,st=>rV r (st.commit b)
theorem mO:∀(bt:List Bt) (st:bg),(st.commits bt).batches=st.batches++bt.map Bt.seen
 |[],st=>by simp[bg.commits]
 |b::r,st=>by
  have:=mO r (st.commit b)
  have e:(st.commit b).batches=st.batches++[b.seen]:=rfl
  rw[e]at this
  show((st.commit b).commits r).batches=_
  rw[this]
  simp
theorem qW(st:bg)(bt:List Bt)(b:Bt):st.commits (bt++[b])=(st.commits bt).commit b:=by unfold bg.commits;rw[List.foldl_append];rfl
theorem dy.like{s t:bg}(h:dy s)(k:gf s t):dy t:=by
 obtain⟨a1,an,nms,nd,sch,cel,bn,bat,toks,pn,pls,keys,u0,u1⟩:=h
 obtain⟨ka,kb,kp,ku⟩:=k
 rw[ka]at a1 an nms nd sch cel pls
 rw[kb]at bn bat toks pls
 rw[ku]at u0 u1
 exact⟨a1,an,nms,nd,sch,cel,bn,bat,toks,by rw[<-kp.length_eq];exact pn,fun p hp=>pls p (kp.mem_iff.2 hp),(kp.map _).nodup_iff.1 keys,u0,u1⟩
theorem dy.withId{s:bg}(h:dy s)(i:Int):dy { s with id:=i }:=⟨h.a1,h.an,h.nms,h.nd,h.sch,h.cel,h.bn,h.bat,h.toks,h.pn,h.pls,h.keys,h.u0,h.u1⟩
theorem dy.withUse{s:bg}(h:dy s){u:Int}(h0:0<=u)(h1:u<=100000):dy { s with use:=u }:=⟨h.a1,h.an,h.nms,h.nd,h.sch,h.cel,h.bn,h.bat,h.toks,h.pn,h.pls,h.keys,h0,h1⟩
theorem gf.withId(s:bg)(i:Int):gf { s with id:=i } s:=⟨rfl,rfl,List.Perm.refl _,rfl⟩
end Go.Vc
namespace Go.Vc
open Go Go.Proofs
def bg.low(st:bg):Int:=1+8*st.arrays.length+3*st.places.length+st.batches.length
structure Lv (k:Dk) (num:Int) (nxt:Nat) (st:bg):Prop where
 v:dy st
 id:st.id=k.st
 k0:0<=k.st
 n1:k.n<=1024
 lo:st.low<=st.use
 hi:st.use<=k.half
 nx:(nxt:Int)<=st.use
 disk:∃bs ps bt,wZ k num nxt st.arrays bs ps bt/\dy (bG st.arrays bs ps)/\(∀b∈bt,md (bG st.arrays bs ps) b)/\gf ((bG st.arrays bs ps).commits bt) st
theorem Lv.ready{k:Dk}{num:Int}{nxt:Nat}{st:bg}(h:Lv k num nxt st):cw st k=0:=by
 obtain⟨bs,ps,bt,hD,_⟩:=h.disk
 unfold cw
 rw[if_neg]
 rintro(hc|hc)
 ·rw[hD.cl.on]at hc;cases hc
 ·exact hc h.id
theorem Lv.n10{k:Dk}{num:Int}{nxt:Nat}{st:bg}(h:Lv k num nxt st):10<=k.n:=by
 obtain⟨bs,ps,bt,hD,_⟩:=h.disk
 exact hD.n2
theorem Lv.half{k:Dk}{num:Int}{nxt:Nat}{st:bg}(h:Lv k num nxt st):k.half<=511:=by
 have:=h.n1
 unfold Dk.half Dk.secs
 omega
theorem Lv.stoB{k:Dk}{num:Int}{nxt:Nat}{st:bg}(h:Lv k num nxt st):ES st :=
 ⟨h.v.an,h.v.sch,by have:=h.v.bn;omega,fun p hp=>⟨(h.v.pls p hp).b0,(h.v.pls p hp).b1⟩,h.v.u0,by have:=h.v.u1;omega⟩
def bg.putS(st:bg)(half:Nat)(b:Bt):Bool×Int×bg :=
 if st.checkE b≠0 then (false,st.checkE b,st) else if st.batches.any (fun x=>decide (x.token=b.token))=true then (false,0,st)
 else if (half:Int)<st.use+b.weight then (false,18,st) else (true,0,st.commit b)
theorem Lv.put{k:Dk}{num:Int}{nxt:Nat}{st:bg}(h:Lv k num nxt st)(b:Bt):
 (st.put k num nxt b).ok=(st.putS k.half b).1/\(st.put k num nxt b).e=(st.putS k.half b).2.1/\(st.put k num nxt b).st=(st.putS k.half b).2.2/\Lv (st.put k num nxt b).k num (st.put k num nxt b).nxt (st.putS k.half b).2.2/\
 (st.put k num nxt b).k.n=k.n/\(st.put k num nxt b).k.st=k.st/\(st.checkE b=0->st.use+b.weight<=k.half->gz k num nxt 2 (cD st.arrays b)):=by
 obtain⟨bs,ps,bt,hD,hB,hbt,hL⟩:=h.disk
 have hhalf:=h.half
 have hr:=h.ready
 have hadd:st.checkE b=0->st.use+b.weight<=k.half->nxt+aG (cD st.arrays b)<k.half/\(cD st.arrays b).length<16777216:=fun h1 h2=>by
  obtain⟨s1,s2⟩:=pi h.v.sch h.v.an (et h1)
  have:=h.nx
  unfold Bt.weight at h2
  exact⟨by omega,s2⟩
 have hAdd:st.checkE b=0->st.use+b.weight<=k.half->gz k num nxt 2 (cD st.arrays b):=fun h1 h2=>(hD.add (hadd h1 h2).1 (hadd h1 h2).2).2.2.2.2
 unfold bg.put bg.putS
 rw[if_neg (by simp[hr])]
 by_cases h1:st.checkE b≠0
 ·rw[if_pos h1,if_pos h1]
  exact⟨rfl,rfl,rfl,h,rfl,rfl,hAdd⟩
 rw[if_neg h1,if_neg h1]
 by_cases h2:st.batches.any (fun x=>decide (x.token=b.token))=true
 ·rw[if_pos h2,if_pos h2]
  exact⟨rfl,rfl,rfl,h,rfl,rfl,hAdd⟩
 rw[if_neg h2,if_neg h2]
 by_cases h3:(k.half:Int)<st.use+b.weight
 ·rw[if_pos h3,if_pos h3]
  exact⟨rfl,rfl,rfl,h,rfl,rfl,hAdd⟩
 rw[if_neg h3,if_neg h3]
 have h1':=Classical.not_not.1 h1
 have hbo:=et h1'
 obtain⟨a1,a2,a3,a4,a5⟩:=hD.add (hadd h1' (by omega)).1 (hadd h1' (by omega)).2
 rw[if_neg (by simp[a1])]
 have hlo:=h.lo
 have hhi:=h.hi
 unfold bg.low at hlo
 have hpl:=(nj (bs:=st.batches++[b.seen]) (n:=(st.batches.length+1:Nat)) (k:=aI st.arrays b.array) (l:=b.changes) h.v.keys).2
 have ew:b.weight=2+3*(b.changes.length:Int):=rfl
 have ht:∀x∈st.batches,x.token≠b.token:=fun x hx he=>h2 (List.any_eq_true.2 ⟨x,hx,by simpa using he⟩)
 have hh:(k.add num nxt 2 (cD st.arrays b)).2.half=k.half:=Dk.half_n a3
 refine⟨rfl,rfl,rfl,⟨h.v.commit hbo ht (by omega) (by omega) (by omega),?_,?_,?_,?_,?_,?_,bs,ps,bt++[b],a2,hB,?_,?_⟩,a3,a4,hAdd⟩
 ·show st.id=_
  rw[h.id];exact a4.symm
 ·show 0<=(k.add num nxt 2 (cD st.arrays b)).2.st
  rw[a4];exact h.k0
 ·show(k.add num nxt 2 (cD st.arrays b)).2.n<=1024
  rw[a3];exact h.n1
 ·show 1+8*(st.arrays.length:Int)+3*((dp (st.batches++[b.seen]) (st.batches.length+1:Nat) (aI st.arrays b.array) st.places b.changes).length:Int)+((st.batches++[b.seen]).length:Int)<=st.use+b.weight
  rw[List.length_append,List.length_cons,List.length_nil]
  omega
 ·show st.use+b.weight<=(k.add num nxt 2 (cD st.arrays b)).2.half
  rw[hh];omega
 ·show((nxt+1+aG (cD st.arrays b):Nat):Int)<=st.use+b.weight
  have:=(pi h.v.sch h.v.an hbo).1
  have:=h.nx
  omega
 ·intro b' hb'
  rcases List.mem_append.1 hb' with hb'|hb'
  ·exact hbt b' hb'
  ·simp at hb'
   subst hb'
   exact hbo.of_arr rfl
 ·rw[qW]
  exact hL.commit ((hL.pls.map _).nodup_iff.2 h.v.keys) b
theorem Lv.cmp{k:Dk}{num:Int}{nxt:Nat}{st:bg}(h:Lv k num nxt st)(hnum:num+1<1000000){ps':List (Pl×dE)}(hp:ps'.Perm st.places):
 (st.cmp k num nxt ps').e=0/\(st.cmp k num nxt ps').num=num+1/\(st.cmp k num nxt ps').st={ st with use:=st.low }/\Lv (st.cmp k num nxt ps').k (num+1) (st.cmp k num nxt ps').nxt { st with use:=st.low }/\(st.cmp k num nxt ps').k.n=k.n/\(st.cmp k num nxt ps').k.st=k.st/\
 gz (k.clear (num+1) 0).2 (num+1) 0 1 (ap st.arrays st.batches ps')/\((k.clear (num+1) 0).2.add (num+1) 0 1 (ap st.arrays st.batches ps')).2.pend.length<=1000000:=by
 obtain⟨bs,ps,bt,hD,hB,hbt,hL⟩:=h.disk
 have hhalf:=h.half
 have hr:=h.ready
 have hn1:=h.n1
 have hlo:=h.lo
 have hhi:=h.hi
 unfold bg.low at hlo
 have hs:=ki h.v hp
 have hlen:=iL h.v hp
 obtain⟨c1,c2,c3,c4,c5,c6,c7,c8⟩:=hD.cmp hnum (arrays':=st.arrays) (bs':=st.batches) (ps':=ps') (by omega) (by omega) (by omega)
 have e0:st.cmp k num nxt ps'=⟨0,{ st with use:=st.low },(((k.clear (num+1) 0).2.add (num+1) 0 1 (ap st.arrays st.batches ps')).2.note (num+1)).2,num+1,0+1+aG (ap st.arrays st.batches ps')⟩:=by
  unfold bg.cmp
  rw[if_neg (by simp[hr]),if_neg (by simp[c1]),if_neg (by simp[c2]),if_neg (by simp[c3])]
  rfl
 rw[e0]
 have hh:(((k.clear (num+1) 0).2.add (num+1) 0 1 (ap st.arrays st.batches ps')).2.note (num+1)).2.half=k.half:=Dk.half_n c5
 have hu:dy { st with use:=st.low }:=h.v.withUse (by unfold bg.low;omega) (by unfold bg.low;omega)
 have hpl:=hp.length_eq
 refine⟨rfl,rfl,rfl,⟨hu,h.id.trans c6.symm,by dsimp only;rw[c6];exact h.k0,by dsimp only;rw[c5];exact h.n1,Int.le_refl _,?_,?_,st.batches,ps',[],c4,?_,by simp,?_⟩,c5,c6,c7,by rw[c8];simp⟩
 ·dsimp only
  rw[hh]
  unfold bg.low;omega
 ·dsimp only
  unfold bg.low;omega
 ·refine⟨hu.a1,hu.an,hu.nms,hu.nd,hu.sch,hu.cel,hu.bn,hu.bat,hu.toks,?_,fun p hpp=>hu.pls p (hp.mem_iff.1 hpp),(hp.map _).nodup_iff.2 hu.keys,?_,?_⟩
  ·show ps'.length<=4000
   rw[hpl];exact hu.pn
  ·show(0:Int)<=1+8*st.arrays.length+3*ps'.length+st.batches.length
   omega
  ·show(1:Int)+8*st.arrays.length+3*ps'.length+st.batches.length<=100000
   omega
 ·refine⟨rfl,rfl,hp,?_⟩
  show(1:Int)+8*st.arrays.length+3*ps'.length+st.batches.length=st.low
  unfold bg.low
  rw[hpl]
theorem Lv.opened{k:Dk}{num:Int}{nxt:Nat}{st:bg}(h:Lv k num nxt st):
 k.newest=num/\k.down=false/\k.pend=[]/\0<num/\(k.clear num nxt).1=0/\(k.clear num nxt).2.st=k.st/\(k.clear num nxt).2.n=k.n/\
 ∃bs ps bt,xY k num 0 ((1,ap st.arrays bs ps)::bt.map fun b=>(2,cD st.arrays b)) nxt/\dy (bG st.arrays bs ps)/\(∀b∈bt,md (bG st.arrays bs ps) b)/\bt.length<=1000/\
  ∀i,i=k.st+1->gf { (bG st.arrays bs ps).commits bt with id:=i } st/\Lv { (k.clear num nxt).2 with st:=i } num nxt { (bG st.arrays bs ps).commits bt with id:=i }:=by
 obtain⟨bs,ps,bt,hD,hB,hbt,hL⟩:=h.disk
 obtain⟨d1,d2,d3,d4,d5,d6⟩:=hD.opened
 refine⟨d1,hD.cl.on,hD.pend,hD.num0,d3,d4,d5,bs,ps,bt,d2,hB,hbt,?_,?_⟩
 ·have:=mO bt (bG st.arrays bs ps)
  rw[hL.bat]at this
  have e:=congrArg List.length this
  rw[List.length_append,List.length_map]at e
  have:=h.v.bn
  omega
 ·rintro i rfl
  have hl:gf { (bG st.arrays bs ps).commits bt with id:=k.st+1 } st:=(gf.withId _ _).trans hL
  have hlo:=h.lo
  have hhi:=h.hi
  have hnx:=h.nx
  have hk0:=h.k0
  have hn1:=h.n1
  have hh:({ (k.clear num nxt).2 with st:=k.st+1 }:Dk).half=k.half:=Dk.half_n d5
  refine⟨hl,h.v.like hl.symm,rfl,by dsimp only;omega,by dsimp only;rw[d5];omega,?_,?_,?_,bs,ps,bt,?_,?_,?_,?_⟩
  ·have e1:=hl.us
   have e2:=hl.pls.length_eq
   have e3:=congrArg List.length hl.bat
   have e4:=congrArg List.length hl.arr
   unfold bg.low at hlo ⊢
   rw[e1,e2,e3,e4]
   exact hlo
  ·rw[hl.us,hh];exact hhi
  ·rw[hl.us];exact hnx
  ·have e4:(({ (bG st.arrays bs ps).commits bt with id:=k.st+1 }:bg)).arrays=st.arrays:=hl.arr
   rw[e4];exact d6 _
  ·have e4:(({ (bG st.arrays bs ps).commits bt with id:=k.st+1 }:bg)).arrays=st.arrays:=hl.arr
   rw[e4];exact hB
  ·have e4:(({ (bG st.arrays bs ps).commits bt with id:=k.st+1 }:bg)).arrays=st.arrays:=hl.arr
   rw[e4];exact hbt
  ·have e4:(({ (bG st.arrays bs ps).commits bt with id:=k.st+1 }:bg)).arrays=st.arrays:=hl.arr
   rw[e4];exact(gf.withId _ _).symm
theorem Lv.fmt{k:Dk}(h:Cl k)(h2:10<=k.n)(n1:k.n<=1024)(k0:0<=k.st){db:List Nm}(hdb:mn db=0)(hne:db.length≠0)(hu:(aU db).use<=k.half){ps':List (Pl×dE)}(hp:ps'.Perm (aO 0 db)):
 (k.fmt (ap (db.map aB) [] ps')).1=0/\(k.fmt (ap (db.map aB) [] ps')).2.st=k.st/\(k.fmt (ap (db.map aB) [] ps')).2.n=k.n/\gz k.zero.2 1 0 1 (ap (db.map aB) [] ps')/\(k.zero.2.add 1 0 1 (ap (db.map aB) [] ps')).2.pend=[]/\
 ∀i,i=k.st+1->Lv { (k.fmt (ap (db.map aB) [] ps')).2 with st:=i } 1 (0+1+aG (ap (db.map aB) [] ps')) { aU db with id:=i }:=by
 have hhalf:k.half<=511:=by unfold Dk.half Dk.secs;omega
 have eu:(aU db).use=1+8*((db.map aB).length:Int)+3*((aO 0 db).length:Int)+(([]:List bH).length:Int):=rfl
 simp only[List.length_nil]at eu
 have hv:=pf hdb hne (by omega)
 have hs:=ki hv (ps:=ps') hp
 have hlen:=iL hv (ps:=ps') hp
 have ea:(aU db).arrays=db.map aB:=rfl
 have eb:(aU db).batches=[]:=rfl
 have ep:(aU db).places=aO 0 db:=rfl
 rw[ea,eb,ep]at hs hlen
 simp only[List.length_nil]at hs hlen
 obtain⟨f1,f2,f3,f4,f5,f6⟩:=wZ.format h h2 (arrays:=db.map aB) (ps:=ps') (by omega) (by omega)
 have hpl:=hp.length_eq
 refine⟨f1,f4,f3,f5,f6,?_⟩
 rintro i rfl
 have hh:({ (k.fmt (ap (db.map aB) [] ps')).2 with st:=k.st+1 }:Dk).half=k.half:=Dk.half_n f3
 refine⟨hv.withId _,rfl,by dsimp only;omega,by dsimp only;rw[f3];exact n1,?_,?_,?_,[],ps',[],⟨⟨f2.cl.on,f2.cl.fu,f2.cl.len,f2.cl.co⟩,f2.n2,f2.num0,f2.num1,f2.note,f2.log,f2.pend⟩,?_,by simp,?_⟩
 ·unfold bg.low
  show _<=(aU db).use
  rw[eu]
  exact Int.le_refl _
 ·rw[hh];exact hu
 ·show _<=(aU db).use
  rw[eu]
  omega
 ·refine⟨hv.a1,hv.an,hv.nms,hv.nd,hv.sch,hv.cel,hv.bn,hv.bat,hv.toks,?_,fun p hpp=>hv.pls p (hp.mem_iff.1 hpp),(hp.map _).nodup_iff.2 hv.keys,?_,?_⟩
  ·show ps'.length<=4000
   omega
  ·show(0:Int)<=1+8*(db.map aB).length+3*ps'.length+(0:Nat)
   omega
  ·show(1:Int)+8*(db.map aB).length+3*ps'.length+(0:Nat)<=100000
   omega
 ·refine⟨rfl,rfl,hp,?_⟩
  show(1:Int)+8*(db.map aB).length+3*ps'.length+(0:Nat)=(aU db).use
  rw[eu,hpl]
end Go.Vc
namespace Go.Vc
open Go Go.Proofs
def dS(M:List Nat)(w:World)(s d n:Nat)(c:Int)(st:bg)(G:List Nat):Prop :=
 ∃l num nxt k F Fd,bU M w s l d num nxt st k F Fd/\Lv k num nxt st/\k.n=n/\num<=c/\k.st<=c/\G=F++Fd
section
variable {M G:List Nat} {w:World} {s d n:Nat} {c:Int} {st:bg} (h:dS M w s d n c st G)
include h
theorem dS.kp0{w':World}(kp:KpL [] w w'):dS M w' s d n c st G:=by
 obtain⟨l,num,nxt,k,F,Fd,hS,hL,hn,hc,hk,rfl⟩:=h
 exact⟨l,num,nxt,k,F,Fd,hS.kp0 kp,hL,hn,hc,hk,rfl⟩
theorem dS.step{M' N:List Nat}{w':World}(kp:KpL N w w')(hs:∀b∈N,b∈M)(hn:∀b∈M',(b∈M∨w.heap.size<=b)/\b<w'.heap.size):dS M' w' s d n c st G:=by
 obtain⟨l,num,nxt,k,F,Fd,hS,hL,hn',hc,hk,rfl⟩:=h
 exact⟨l,num,nxt,k,F,Fd,hS.step kp hs hn,hL,hn',hc,hk,rfl⟩
theorem dS.mlt:∀b∈M,b<w.heap.size:=by
 obtain⟨l,num,nxt,k,F,Fd,hS,hL,hn',hc,hk,rfl⟩:=h
 exact hS.mlt
theorem dS.own_lt:∀b∈G,b<w.heap.size/\b∉M:=by
 obtain⟨l,num,nxt,k,F,Fd,hS,hL,hn',hc,hk,rfl⟩:=h
 exact hS.own_lt
theorem dS.v:dy st:=by
 obtain⟨l,num,nxt,k,F,Fd,hS,hL,hn',hc,hk,rfl⟩:=h
 exact hL.v
theorem dS.put{Mc:List Nat}{b:Bt}{ca:Option Addr}{cn cc:Nat}(hc:R (au aC) (G++Mc) w b.changes [.slice ca cn cc]):
 Calls Zz 13 #[pK s,.agg #[.string b.token,iv b.stamp,.string b.array,.slice ca cn cc]] w fun e w'=>e=.returned (.tuple #[.bool (st.putS ((n - 2) / 2) b).1,iv (st.putS ((n - 2) / 2) b).2.1])/\
  ∃G',dS M w' s d n c (st.putS ((n - 2) / 2) b).2.2 G'/\ci G w G' w':=by
 obtain⟨l,num,nxt,k,F,Fd,hS,hL,rfl,hc1,hk,rfl⟩:=h
 obtain⟨p1,p2,p3,p4,p5,p6,p7⟩:=hL.put b
 have hn10:=hL.n10
 obtain⟨bs,ps,bt,hD,_⟩:=hL.disk
 refine(CX hS hc hL.stoB (by omega) (by have:=hD.num0;omega) p7).mono ?_
 rintro e w' ⟨rfl,F',Fd',h',hO⟩
 have eh:k.half=(k.n - 2) / 2:=rfl
 rw[<-eh]
 rw[p3]at h'
 exact⟨by rw[p1,p2],F'++Fd',⟨l,num,_,_,F',Fd',h',p4,p5,hc1,by rw[p6];exact hk,rfl⟩,hO⟩
theorem dS.cmp(hcl:c<900000):Calls Zz 14 #[pK s] w fun e w'=>e=.returned (iv 0)/\
 ∃G',dS M w' s d n (c+1) { st with use:=st.low } G'/\ci G w G' w':=by
 obtain⟨l,num,nxt,k,F,Fd,hS,hL,rfl,hc1,hk,rfl⟩:=h
 have hn10:=hL.n10
 obtain⟨bs,ps,bt,hD,_⟩:=hL.disk
 have hnum:=hD.num0
 refine(rv hS hL.v (by omega) (by omega) (by omega) (by rw[hD.pend];simp) (fun ps' hp _=>(hL.cmp (by omega) hp).2.2.2.2.2.2.1) (fun ps' hp _ _=>(hL.cmp (by omega) hp).2.2.2.2.2.2.2)).mono ?_
 rintro e w' ⟨ps',hp,rfl,l',F',Fd',h',hO⟩
 obtain⟨p1,p2,p3,p4,p5,p6,_,_⟩:=hL.cmp (by omega) hp
 rw[p2,p3]at h'
 exact⟨by rw[p1],F'++Fd',⟨l',num+1,_,_,F',Fd',h',p4,p5,by omega,by rw[p6];omega,rfl⟩,hO⟩
theorem dS.db{N:List Nat}(hN:∀b∈N,b<w.heap.size):Calls Zz 16 #[pK s] w fun e w'=>KpL [] w w'/\
 ∃out a m q,e=.returned (.tuple #[.slice a m q,iv 0])/\out.length=st.arrays.length/\rN st.arrays st.places out/\R (au gG) N w' out [.slice a m q]:=by
 obtain⟨l,num,nxt,k,F,Fd,hS,hL,rfl,hc1,hk,rfl⟩:=h
 refine(D4 hS.sto hS.dk hL.v hN).mono ?_
 rintro e w' ⟨h1,h2⟩
 rw[if_neg (by simp[hL.ready])]at h2
 exact⟨h1,h2⟩
theorem dS.room:Calls Zz 29 #[pK s] w (aA (.tuple #[iv (((n - 2) / 2:Nat) - st.use),iv 0]) w):=by
 obtain⟨l,num,nxt,k,F,Fd,hS,hL,rfl,hc1,hk,rfl⟩:=h
 have hn10:=hL.n10
 have:=vU hS.sto hS.dk (by omega) ⟨hL.v.u0,by have:=hL.v.u1;omega⟩
 rw[hL.ready,if_neg (by simp)]at this
 exact this
theorem dS.tokens{N:List Nat}(hN:∀b∈N,b<w.heap.size):Calls Zz 30 #[pK s] w fun e w'=>∃a m q,e=.returned (.tuple #[.slice a m q,iv 0])/\KpL [] w w'/\R (au tS) N w' (st.batches.map (·.token)) [.slice a m q]:=by
 obtain⟨l,num,nxt,k,F,Fd,hS,hL,rfl,hc1,hk,rfl⟩:=h
 have:=yd hN hS.sto hS.dk (by have:=hL.v.bn;omega)
 rw[hL.ready,if_neg (by simp)]at this
 exact this
end
theorem pz{m:Nat}:∀{l:List Nm} {i:Nat},(∀x∈l,x.arr.cells.length<=m)->(aO i l).length<=m*l.length
 |[],i,_=>by simp[aO]
 |x::r,i,h=>by
  have h1:=h x (by simp)
  have h2:=pz (l:=r) (i:=i+1) fun y hy=>h y (by simp[hy])
  have e:(aO i (x::r)).length=x.arr.cells.length+(aO (i+1) r).length:=by
   rw[aO,List.length_append]
   simp[ff]
  rw[e,List.length_cons,Nat.mul_add]
  omega
theorem ER{M Mdb Fd:List Nat}{w:World}{d n:Nat}{db:List Nm}{dba:Option Addr}{dbn dbc:Nat}(h:bz M w d (cF n) Fd)(h1:64<=n)(h2:n<=1024)(hd:R (au gG) Mdb w db [.slice dba dbn dbc])(hp:(aO 0 db).length<=4000):
 Calls Zz 20 #[pK d,.slice dba dbn dbc] w fun e w' =>
  if mn db≠0∨db.length=0 then e=.returned (.tuple #[.pointer none,iv 2])/\KpL [] w w'
  else if (((n - 2) / 2:Nat):Int)<(aU db).use then e=.returned (.tuple #[.pointer none,iv 18])/\KpL [] w w'
  else ∃s G i,e=.returned (.tuple #[pK s,iv 0])/\dS M w' s d n 1 { aU db with id:=i } G/\ci Fd w G w':=by
 have hcl:Cl (cF n):=⟨rfl,rfl,by simp[cF],fun _=>rfl⟩
 have en:(cF n).n=n:=rfl
 have es:(cF n).st=0:=rfl
 have eh:(cF n).half=(n - 2) / 2:=rfl
 refine(uy h hd hp (by simp[cF]) (by omega) fun g1 g2 g3 g4 ps' hps=>?_).mono ?_
 ·obtain⟨f1,f2,f3,f4,f5,f6⟩:=Lv.fmt hcl (by omega) h2 (by omega) g1 g2 g4 hps
  exact⟨fun _=>f4,fun _ _=>by rw[f5];simp,by rw[f2,es];exact ae.2 (by omega)⟩
 ·intro e w' hh
  split at hh
  ·rename_i hz
   rw[if_pos hz];exact hh
  rename_i hz
  rw[if_neg hz]
  rw[if_neg (by simp[cF])]at hh
  rw[eh]at hh
  split at hh
  ·rename_i hz2
   rw[if_pos hz2];exact hh
  rename_i hz2
  rw[if_neg hz2]
  obtain⟨ps',hps,hh⟩:=hh
  obtain⟨f1,f2,f3,f4,f5,f6⟩:=Lv.fmt hcl (by omega) h2 (by omega) (by omega) (fun hc=>hz (.inr hc)) (by rw[eh];omega) hps
  rw[if_neg (by simp[f1])]at hh
  obtain⟨s,l,F,Fd',rfl,h',hO⟩:=hh
  exact⟨s,F++Fd',_,rfl,⟨l,1,_,_,F,Fd',h',f6 _ (by rw[f2]),f3,Int.le_refl _,by dsimp only;rw[f2,es];omega,rfl⟩,hO⟩
end Go.Vc
namespace Go.Vc
open Go Go.Proofs
open Go.Value Go.Ending Go.IntKind
set_option maxRecDepth 100000
section
variable{w:World}{R:Ending->World->Prop}
theorem Df{s:Nat}{la:Option Addr}{ln lc:Nat}
 (h :
 ag Zz 16 #[pK s] w fun e1 w1 =>
 ∃a1 k1 k2 n1,e1=returned (tuple #[slice a1 k1 k2,iv n1])/\KpL [] w w1/\(¬n1≠0->(¬(↑k1:Int)≠(1:Int)->∃d1,a1=some d1/\(0:Int)<=(0:Int)/\(0:Int)<(↑k1:Int)/\∃a2 k3 k4,ao w1 (((d1.add (Int.toNat 0*4)).add 1).add 2) [slice a2 k3 k4]/\((↑k3:Int)≠(↑ln:Int)->R (returned (bv false)) w1)/\(¬(↑k3:Int)≠(↑ln:Int)->∃(P1:LP)(P2:LM),P1 [iv 0] w1/\∀n2 w2,P1 [iv n2] w2->(n2<(↑ln:Int)->∃d2,a1=some d2/\(0:Int)<=(0:Int)/\(0:Int)<(↑k1:Int)/\∃a3 k5 k6,ao w2 (((d2.add (Int.toNat 0*4)).add 1).add 2) [slice a3 k5 k6]/\Ad a3 n2 k5 fun d3=>∃a4 k7 k8 a5 k9 k10,ao w2 (d3.add (n2.toNat*2)) [slice a4 k7 k8,slice a5 k9 k10]/\∀k11,w2.heap.size<=k11->(¬(↑k7:Int)≠(2:Int)->∃d4,a4=some d4/\(0:Int)<=(0:Int)/\(0:Int)<(↑k7:Int)/\∃n3,ao w2 (d4.add (Int.toNat 0*1)) [iv n3]/\Ad la n2 ln fun d5=>∃a6 k12 k13,ao w2 ((d5.add (n2.toNat*2)).add 0) [slice a6 k12 k13]/\∃d6,a6=some d6/\(0:Int)<=(0:Int)/\(0:Int)<(↑k12:Int)/\∃n4,ao w2 (d6.add (Int.toNat 0*1)) [iv n4]/\(¬n3≠n4->∃d7,a4=some d7/\(0:Int)<=(1:Int)/\(1:Int)<(↑k7:Int)/\∃n5,ao w2 (d7.add (Int.toNat 1*1)) [iv n5]/\Ad la n2 ln fun d8=>∃a7 k14 k15,ao w2 ((d8.add (n2.toNat*2)).add 0) [slice a7 k14 k15]/\∃d9,a7=some d9/\(0:Int)<=(1:Int)/\(1:Int)<(↑k14:Int)/\∃n6,ao w2 (d9.add (Int.toNat 1*1)) [iv n6]/\(¬n5≠n6->(¬(↑k9:Int)≠(1:Int)->∃d10,a5=some d10/\(0:Int)<=(0:Int)/\(0:Int)<(↑k9:Int)/\∃n7 n8 n9 s1,ao w2 (d10.add (Int.toNat 0*4)) [iv n7,iv n8,iv n9,string s1]/\Ad la n2 ln fun d11=>∃a8 k16 k17,ao w2 ((d11.add (n2.toNat*2)).add 1) [slice a8 k16 k17]/\∃d12,a8=some d12/\(0:Int)<=(0:Int)/\(0:Int)<(↑k16:Int)/\∃n10 n11 n12 s2,ao w2 (d12.add (Int.toNat 0*4)) [iv n10,iv n11,iv n12,string s2]/\∃b1,Pv Zz
 (do
 eqGuard BinOp.neq 161 (Operand.tmp 88) (Operand.tmp 95) (agg #[iv n7,iv n8,iv n9,string s1]) (agg #[iv n10,iv n11,iv n12,string s2])
 binOp BinOp.neq 161 (agg #[iv n7,iv n8,iv n9,string s1]) (agg #[iv n10,iv n11,iv n12,string s2]))
 (bv b1)/\(b1=true->∀w3,KpL [] w2 w3->Hb w3 k11 #[slice a4 k7 k8,slice a5 k9 k10] 147->R (returned (bv false)) w3)/\(b1=false->ar i64 (n2+1)/\∀w4,KpL [] w2 w4->Hb w4 k11 #[slice a4 k7 k8,slice a5 k9 k10] 147->P1 [iv (n2+1)] w4/\P2 [iv (n2+1)] w4<P2 [iv n2] w2))/\((↑k9:Int)≠(1:Int)->∀w5,KpL [] w2 w5->Hb w5 k11 #[slice a4 k7 k8,slice a5 k9 k10] 147->R (returned (bv false)) w5))/\(n5≠n6->∀w6,KpL [] w2 w6->Hb w6 k11 #[slice a4 k7 k8,slice a5 k9 k10] 147->R (returned (bv false)) w6))/\(n3≠n4->∀w7,KpL [] w2 w7->Hb w7 k11 #[slice a4 k7 k8,slice a5 k9 k10] 147->R (returned (bv false)) w7))/\((↑k7:Int)≠(2:Int)->∀w8,KpL [] w2 w8->Hb w8 k11 #[slice a4 k7 k8,slice a5 k9 k10] 147->R (returned (bv false)) w8))/\(¬n2<(↑ln:Int)->R (returned (bv true)) w2)))/\((↑k1:Int)≠(1:Int)->R (returned (bv false)) w1))/\(n1≠0->R (returned (bv false)) w1)):Calls Zz 28 #[pK s,slice la ln lc] w R :=
 fz { loops:=[⟨5,[7],[4,8]++rg 32 66,[]⟩],all:=true } [av (pK s),av (.slice la ln lc)] Tryz.func28 h
theorem zS{u:Nat}
 (h :
 ag Zz 19 #[iv 64] w fun e1 w1 =>
 ∃a1 n1,e1=returned (tuple #[pointer a1,iv n1])/\KpL [] w w1/\ag Zz 36 #[] w1 fun e2 w2 =>
 ∃a2 k1 k2,e2=returned (slice a2 k1 k2)/\KpL [] w1 w2/\ag Zz 20 #[pointer a1,slice a2 k1 k2] w2 fun e3 w3 =>
 ∃a3 n2,e3=returned (tuple #[pointer a3,iv n2])/\∃l1,KpL l1 w2 w3/\(¬n1≠0->(¬n2≠0->(¬a1=none->(a3=none->R (returned (tuple #[pointer none,pointer none,bv false])) w3)/\(¬a3=none->ag Zz 29 #[pointer a3] w3 fun e4 w4 =>
 ∃n3 n4,e4=returned (tuple #[iv n3,iv n4])/\KpL [] w3 w4/\(n3=22->(n4=0->∀k3,w4.heap.size<=k3->∀w5,KpL [] w4 w5->Hb w5 k3 #[iv 1] 2->ag Zz 26 #[iv 0,iv 0,sK k3 1 1] w5 fun e5 w6 =>
 ∃a4 k4 k5 a5 k6 k7,e5=returned (agg #[slice a4 k4 k5,slice a5 k6 k7])/\KpL [] w5 w6/\∀k8,w6.heap.size<=k8->∀w7,KpL [] w6 w7->Hb w7 k8 #[iv 2] 2/\Hb w7 k3 #[iv 1] 2->ag Zz 26 #[iv 1,iv 0,sK k8 1 1] w7 fun e6 w8 =>
 ∃a6 k9 k10 a7 k11 k12,e6=returned (agg #[slice a6 k9 k10,slice a7 k11 k12])/\KpL [] w7 w8/\∀k13,w8.heap.size<=k13->∀w9,KpL [] w8 w9->Hb w9 k13 #[slice a4 k4 k5,slice a5 k6 k7,slice a6 k9 k10,slice a7 k11 k12] 81/\Hb w9 k8 #[iv 2] 2/\Hb w9 k3 #[iv 1] 2->ag Zz 25 (#[string (ByteArray.mk #[97]),iv 5,sK k13 2 2]) w9 fun e7 w10 =>
 ∃s1 n5 s2 a8 k14 k15,e7=returned (agg #[string s1,iv n5,string s2,slice a8 k14 k15])/\KpL [] w9 w10/\(Hb w10 k13 #[slice a4 k4 k5,slice a5 k6 k7,slice a6 k9 k10,slice a7 k11 k12] 81/\Hb w10 k8 #[iv 2] 2/\Hb w10 k3 #[iv 1] 2->ag Zz 27 (#[pointer a3,agg #[string s1,iv n5,string s2,slice a8 k14 k15]]) w10 fun e8 w11 =>
 ∃b1,e8=returned (bv b1)/\∃l2,KpL l2 w10 w11/\(af k13 l2/\af k8 l2/\af k3 l2)/\(b1=true->∀k16,w11.heap.size<=k16->∀w12,KpL [] w11 w12->Hb w12 k16 #[iv 3] 2/\Hb w12 k13 #[slice a4 k4 k5,slice a5 k6 k7,slice a6 k9 k10,slice a7 k11 k12] 81/\Hb w12 k8 #[iv 2] 2/\Hb w12 k3 #[iv 1] 2->ag Zz 26 #[iv 1,iv 0,sK k16 1 1] w12 fun e9 w13 =>
 ∃a9 k17 k18 a10 k19 k20,e9=returned (agg #[slice a9 k17 k18,slice a10 k19 k20])/\KpL [] w12 w13/\∀k21,w13.heap.size<=k21->∀w14,KpL [] w13 w14->Hb w14 k21 #[iv 4] 2/\Hb w14 k16 #[iv 3] 2/\Hb w14 k13 #[slice a4 k4 k5,slice a5 k6 k7,slice a6 k9 k10,slice a7 k11 k12] 81/\Hb w14 k8 #[iv 2] 2/\Hb w14 k3 #[iv 1] 2->ag Zz 26 #[iv 3,iv 1,sK k21 1 1] w14 fun e10 w15 =>
 ∃a11 k22 k23 a12 k24 k25,e10=returned (agg #[slice a11 k22 k23,slice a12 k24 k25])/\KpL [] w14 w15/\∀k26,w15.heap.size<=k26->∀w16,KpL [] w15 w16->Hb w16 k26 #[slice a9 k17 k18,slice a10 k19 k20,slice a11 k22 k23,slice a12 k24 k25] 81/\Hb w16 k21 #[iv 4] 2/\Hb w16 k16 #[iv 3] 2/\Hb w16 k13 #[slice a4 k4 k5,slice a5 k6 k7,slice a6 k9 k10,slice a7 k11 k12] 81/\Hb w16 k8 #[iv 2] 2/\Hb w16 k3 #[iv 1] 2->ag Zz 25 (#[string (ByteArray.mk #[98]),iv 4,sK k26 2 2]) w16 fun e11 w17 =>
 ∃s3 n6 s4 a13 k27 k28,e11=returned (agg #[string s3,iv n6,string s4,slice a13 k27 k28])/\KpL [] w16 w17/\(Hb w17 k26 #[slice a9 k17 k18,slice a10 k19 k20,slice a11 k22 k23,slice a12 k24 k25] 81/\Hb w17 k21 #[iv 4] 2/\Hb w17 k16 #[iv 3] 2/\Hb w17 k13 #[slice a4 k4 k5,slice a5 k6 k7,slice a6 k9 k10,slice a7 k11 k12] 81/\Hb w17 k8 #[iv 2] 2/\Hb w17 k3 #[iv 1] 2->ag Zz 27 (#[pointer a3,agg #[string s3,iv n6,string s4,slice a13 k27 k28]]) w17 fun e12 w18 =>
 ∃b2,e12=returned (bv b2)/\∃l3,KpL l3 w17 w18/\(af k26 l3/\af k21 l3/\af k16 l3/\af k13 l3/\af k8 l3/\af k3 l3)/\(Hb w18 k26 #[slice a9 k17 k18,slice a10 k19 k20,slice a11 k22 k23,slice a12 k24 k25] 81/\Hb w18 k21 #[iv 4] 2/\Hb w18 k16 #[iv 3] 2/\Hb w18 k13 #[slice a4 k4 k5,slice a5 k6 k7,slice a6 k9 k10,slice a7 k11 k12] 81/\Hb w18 k8 #[iv 2] 2/\Hb w18 k3 #[iv 1] 2->R (returned (tuple #[pointer a1,pointer a3,bv b2])) w18)))/\(b1=false->Hb w11 k13 #[slice a4 k4 k5,slice a5 k6 k7,slice a6 k9 k10,slice a7 k11 k12] 81/\Hb w11 k8 #[iv 2] 2/\Hb w11 k3 #[iv 1] 2->R (returned (tuple #[pointer a1,pointer a3,bv false])) w11)))/\(¬n4=0->R (returned (tuple #[pointer a1,pointer a3,bv false])) w4))/\(¬n3=22->R (returned (tuple #[pointer a1,pointer a3,bv false])) w4)))/\(a1=none->R (returned (tuple #[pointer none,pointer none,bv false])) w3))/\(n2≠0->R (returned (tuple #[pointer none,pointer none,bv false])) w3))/\(n1≠0->R (returned (tuple #[pointer none,pointer none,bv false])) w3)):Calls Zz 24 #[] w R :=
 fz { muts:=[20,27],all:=true } [] Tryz.func24 h
theorem wR{u:Nat}
 (h :
 ag Zz 24 #[] w fun e1 w1 =>
 ∃a1 a2 b1,e1=returned (tuple #[pointer a1,pointer a2,bv b1])/\∃l1,KpL l1 w w1/\((!b1)=false->∀k1,w1.heap.size<=k1->∀w2,KpL [] w1 w2->Hb w2 k1 #[iv 1] 2->ag Zz 26 #[iv 0,iv 0,sK k1 1 1] w2 fun e2 w3 =>
 ∃a3 k2 k3 a4 k4 k5,e2=returned (agg #[slice a3 k2 k3,slice a4 k4 k5])/\KpL [] w2 w3/\∀k6,w3.heap.size<=k6->∀w4,KpL [] w3 w4->Hb w4 k6 #[iv 2] 2/\Hb w4 k1 #[iv 1] 2->ag Zz 26 #[iv 1,iv 0,sK k6 1 1] w4 fun e3 w5 =>
 ∃a5 k7 k8 a6 k9 k10,e3=returned (agg #[slice a5 k7 k8,slice a6 k9 k10])/\KpL [] w4 w5/\∀k11,w5.heap.size<=k11->∀w6,KpL [] w5 w6->Hb w6 k11 #[iv 4] 2/\Hb w6 k6 #[iv 2] 2/\Hb w6 k1 #[iv 1] 2->ag Zz 26 #[iv 3,iv 1,sK k11 1 1] w6 fun e4 w7 =>
 ∃a7 k12 k13 a8 k14 k15,e4=returned (agg #[slice a7 k12 k13,slice a8 k14 k15])/\KpL [] w6 w7/\∀k16,w7.heap.size<=k16->∀w8,KpL [] w7 w8->Hb w8 k16 #[slice a3 k2 k3,slice a4 k4 k5,slice a5 k7 k8,slice a6 k9 k10,slice a7 k12 k13,slice a8 k14 k15] 81/\Hb w8 k11 #[iv 4] 2/\Hb w8 k6 #[iv 2] 2/\Hb w8 k1 #[iv 1] 2->ag Zz 28 #[pointer a2,sK k16 3 3] w8 fun e5 w9 =>
 ∃b2,e5=returned (bv b2)/\KpL [] w8 w9/\((!b2)=true->Hb w9 k16 #[slice a3 k2 k3,slice a4 k4 k5,slice a5 k7 k8,slice a6 k9 k10,slice a7 k12 k13,slice a8 k14 k15] 81/\Hb w9 k11 #[iv 4] 2/\Hb w9 k6 #[iv 2] 2/\Hb w9 k1 #[iv 1] 2->R (returned (bv false)) w9)/\((!b2)=false->Hb w9 k16 #[slice a3 k2 k3,slice a4 k4 k5,slice a5 k7 k8,slice a6 k9 k10,slice a7 k12 k13,slice a8 k14 k15] 81/\Hb w9 k11 #[iv 4] 2/\Hb w9 k6 #[iv 2] 2/\Hb w9 k1 #[iv 1] 2->ag Zz 29 #[pointer a2] w9 fun e6 w10 =>
 ∃n1 n2,e6=returned (tuple #[iv n1,iv n2])/\KpL [] w9 w10/\(n1=6->Hb w10 k16 #[slice a3 k2 k3,slice a4 k4 k5,slice a5 k7 k8,slice a6 k9 k10,slice a7 k12 k13,slice a8 k14 k15] 81/\Hb w10 k11 #[iv 4] 2/\Hb w10 k6 #[iv 2] 2/\Hb w10 k1 #[iv 1] 2->R (returned (bv (decide (n2=0)))) w10)/\(¬n1=6->Hb w10 k16 #[slice a3 k2 k3,slice a4 k4 k5,slice a5 k7 k8,slice a6 k9 k10,slice a7 k12 k13,slice a8 k14 k15] 81/\Hb w10 k11 #[iv 4] 2/\Hb w10 k6 #[iv 2] 2/\Hb w10 k1 #[iv 1] 2->R (returned (bv false)) w10)))/\((!b1)=true->R (returned (bv false)) w1)):Calls Zz 9 #[] w R :=
 fz { muts:=[24],all:=true } [] Tryz.func9 h
end
end Go.Vc
namespace Go.Vc
open Go Go.Proofs
theorem kC(ad:Addr)(i j:Nat):(ad.add i).add j=ad.add (i+j):=by
 unfold Addr.add
 by_cases hi:i=0<;>by_cases hj:j=0<;>simp[hi,hj,Nat.add_assoc]
def Ey(n:Nat)(db:List Nm):Prop:=mn db=0/\db.length≠0/\(aU db).use<=(((n - 2) / 2:Nat):Int)
instance (n:Nat) (db:List Nm):Decidable (Ey n db):=by unfold Ey;infer_instance
theorem EV:oe Zz 24 24 32 4 64:=bM (by kernel_rfl)
end Go.Vc
namespace Go.Vc
open Go Go.Proofs
theorem jV{n:Int}(h:2<=n/\n<=100000)(w:World):Calls Zz 84 #[iv n] w (aA (iv ((n - 2) / 2)) w):=by
 refine vJ ⟨ae.2 (by omega),by omega,?_,KpL.refl _ _⟩
 rw[Int.tdiv_eq_ediv_of_nonneg (by omega),aE (ae.2 (by omega))]
theorem gS{M M':List Nat}{w:World}{xs ys:List Int}{a b:Option Addr}{n c m q:Nat}(hx:R (au (tI .i64)) M w xs [.slice a n c])(hy:R (au (tI .i64)) M' w ys [.slice b m q]):Calls Zz 177 #[.slice a n c,.slice b m q] w (aA (.bool (decide (xs=ys))) w):=by
 obtain⟨rfl,hn1,hn2⟩:=hx.sl_len
 obtain⟨rfl,hm1,hm2⟩:=hy.sl_len
 have hmx:az=140737488355328:=rfl
 refine qp ⟨fun hne=>?_,fun he=>⟨fun vs w'=>∃i:Nat,vs=[iv (i:Int)]/\KpL [] w w'/\i<=xs.length/\xs.take i=ys.take i,fun vs _=>match vs with|[.int _ i]=>xs.length - i.toNat|_=>0,⟨0,rfl,KpL.refl _ _,by omega,by simp⟩,?_⟩⟩
 ·have:xs≠ys:=by rintro rfl;exact hne rfl
  rw[decide_eq_false this]
  exact⟨rfl,KpL.refl _ _⟩
 have hl:xs.length=ys.length:=by omega
 rintro n1 w1 ⟨i,hv,hk,hi,ht⟩
 obtain rfl:=v1 hv
 constructor
 ·intro hlt
  have h1:i<xs.length:=by omega
  have h2:i<ys.length:=by omega
  obtain⟨ad,cs,rfl,hv1,hld1,_,_⟩:=(hx.kp0 hk).sl_get h1
  obtain⟨ad2,cs2,rfl,hv2,hld2,_,_⟩:=(hy.kp0 hk).sl_get h2
  obtain⟨rfl,_⟩:=hv1.intD
  obtain⟨rfl,_⟩:=hv2.intD
  refine⟨ad,rfl,by omega,hlt,_,hld1,ad2,rfl,by omega,by omega,_,hld2,fun hne w2 hw2=>?_,fun heq=>⟨ae.2 (by omega),fun w3 hw3=>⟨⟨i+1,rfl,hk.trans hw3,by omega,eJ h1 h2 ht (Classical.not_not.1 heq)⟩,by dsimp only;omega⟩⟩⟩
  rw[decide_eq_false (dU h1 h2 hne)]
  exact⟨rfl,hk.trans hw2⟩
 ·intro hge
  have:xs=ys:=by
   rw[<-List.take_length (l:=xs),<-List.take_length (l:=ys),<-hl,show xs.length=i from by omega]
   exact ht
  rw[decide_eq_true this]
  exact⟨rfl,hk⟩
def aT(M:List Nat)(w:World)(r:Nat)(n:Int)(first:List Nm)(l:List Bt)(u:Int):Prop :=
 ∃a p q b m c,w.heap[r]?=some (.cells #[iv n,.slice a p q,.slice b m c,iv u] 166 (0,0))/\r∉M/\R (au gG) (r::M) w first [.slice a p q]/\R (au B8) (r::M) w l [.slice b m c]
theorem Bu{M:List Nat}{w:World}{r:Nat}{n u:Int}{first:List Nm}{l:List Bt}(h:aT M w r n first l u)(hn:2<=n/\n<=100000)(hu : -1000000<=u/\u<=1000000):Calls Zz 90 #[pK r] w (aA (iv ((n - 2) / 2 - u)) w):=by
 obtain⟨a,p,q,b,m,c,hk,_⟩:=h
 refine BM ⟨n,by rw[al];exact ak hk 0 [_] rfl,u,by rw[al];exact ak hk 3 [_] rfl,fun w1 hw1=>⟨(jV hn w1).mono ?_⟩⟩
 rintro e w2 ⟨rfl,hw2⟩
 exact⟨_,rfl,hw2,ae.2 (by omega),rfl,hw1.trans hw2⟩
theorem xm(w:World)(x y:Bt)(a b:Option Addr)(n c m q:Nat):Calls Zz 181 #[.agg #[.string x.token,iv x.stamp,.string x.array,.slice a n c],.agg #[.string y.token,iv y.stamp,.string y.array,.slice b m q]] w (aA (.bool (x.seen.gt y.seen)) w):=by
 refine yO fun k1 _ k2 _=>⟨fun h1=>⟨fun h2 w1 hw1=>⟨?_,hw1⟩,fun h2 w2 hw2=>⟨?_,hw2⟩⟩,fun h1 w3 hw3=>⟨?_,hw3⟩⟩
 all_goals unfold bH.gt
 ·have e1:decide (y.seen.stamp<x.seen.stamp)=false:=decide_eq_false h1
  have e2:decide (x.seen.stamp=y.seen.stamp)=true:=decide_eq_true h2
  rw[e1,e2]
  rfl
 ·have e1:decide (y.seen.stamp<x.seen.stamp)=false:=decide_eq_false h1
  have e2:decide (x.seen.stamp=y.seen.stamp)=false:=decide_eq_false h2
  rw[e1,e2]
  rfl
 ·have e1:decide (y.seen.stamp<x.seen.stamp)=true:=decide_eq_true h1
  rw[e1]
  rfl
theorem qm{M M':List Nat}{w:World}{xs ys:List (dI)}{a b:Option Addr}{n c m q:Nat}(hx:R (au bY) M w xs [.slice a n c])(hy:R (au bY) M' w ys [.slice b m q]):
 Calls Zz 178 #[.slice a n c,.slice b m q] w (aA (.bool (decide (xs=ys))) w):=by
 obtain⟨rfl,hn1,hn2⟩:=hx.sl_len
 obtain⟨rfl,hm1,hm2⟩:=hy.sl_len
 have hmx:az=140737488355328:=rfl
 refine qN ⟨fun hne=>?_,fun he=>⟨fun vs w'=>∃i,vs=[iv i]/\KpL [] w w'/\0<=i/\i<=xs.length/\xs.take i.toNat=ys.take i.toNat,fun vs _=>match vs with|[.int _ i]=>xs.length - i.toNat|_=>0,⟨0,rfl,KpL.refl _ _,by omega,by omega,rfl⟩,?_⟩⟩
 ·refine⟨?_,KpL.refl _ _⟩
  have:xs≠ys:=by rintro rfl;exact hne rfl
  rw[decide_eq_false this]
 have hl:xs.length=ys.length:=by
  have:=Classical.not_not.1 he
  omega
 rintro n1 w1 ⟨i,hv,hk,hi0,hi1,ht⟩
 obtain rfl:=v1 hv
 constructor
 ·intro hlt
  have h1:n1.toNat<xs.length:=by omega
  have h2:n1.toNat<ys.length:=by omega
  obtain⟨ad,cs,rfl,hv1,hld1,_,_⟩:=(hx.kp0 hk).sl_get h1
  obtain⟨ad2,cs2,rfl,hv2,hld2,_,_⟩:=(hy.kp0 hk).sl_get h2
  obtain⟨rfl,hok1⟩:=hv1.dim
  obtain⟨rfl,hok2⟩:=hv2.dim
  refine⟨ad,rfl,hi0,hlt,_,_,_,hld1,ad2,rfl,hi0,by omega,_,_,_,hld2,?_⟩
  have hkey:(xs[n1.toNat].name == ys[n1.toNat].name&&(xs[n1.toNat].lo == ys[n1.toNat].lo&&xs[n1.toNat].hi == ys[n1.toNat].hi))=decide (xs[n1.toNat]=ys[n1.toNat]):=by
   generalize xs[n1.toNat]=x;generalize ys[n1.toNat]=y
   cases x;cases y;rw[Bool.eq_iff_iff];simp only[Bool.and_eq_true,Dp,beq_iff_eq,decide_eq_true_eq,dI.mk.injEq]
  refine⟨_,nZ (by kernel_rfl) (fun w=>Dw w _ _ _ _ _ _),?_,?_⟩
  ·intro hb w2 hw2
   refine⟨?_,hk.trans hw2⟩
   have hne:xs[n1.toNat]≠ys[n1.toNat]:=by
    intro hc
    first
     |exact hb hc
     |(rw[decide_eq_true hc]at hkey;simp[hkey]at hb)
   rw[decide_eq_false (dU h1 h2 hne)]
  ·intro hb
   have heq:xs[n1.toNat]=ys[n1.toNat]:=by
    have:decide (xs[n1.toNat]=ys[n1.toNat])=true:=by rw[<-hkey];simpa using hb
    exact of_decide_eq_true this
   have e1:(n1+1).toNat=n1.toNat+1:=by omega
   refine⟨ae.2 (by omega),fun w3 hw3=>⟨⟨n1+1,rfl,hk.trans hw3,by omega,by omega,by rw[e1];exact eJ h1 h2 ht heq⟩,?_⟩⟩
   show xs.length - (n1+1).toNat<xs.length - n1.toNat
   omega
 ·intro hge
  refine⟨?_,hk⟩
  have e1:n1.toNat=xs.length:=by omega
  rw[e1,List.take_length,hl,List.take_length]at ht
  rw[decide_eq_true ht]
theorem oL{M M':List Nat}{w:World}{xs ys:List (cI)}{a b:Option Addr}{n c m q:Nat}(hx:R (au bw) M w xs [.slice a n c])(hy:R (au bw) M' w ys [.slice b m q]):
 Calls Zz 179 #[.slice a n c,.slice b m q] w (aA (.bool (decide (xs=ys))) w):=by
 obtain⟨rfl,hn1,hn2⟩:=hx.sl_len
 obtain⟨rfl,hm1,hm2⟩:=hy.sl_len
 have hmx:az=140737488355328:=rfl
 refine oR ⟨fun hne=>?_,fun he=>⟨fun vs w'=>∃i,vs=[iv i]/\KpL [] w w'/\0<=i/\i<=xs.length/\xs.take i.toNat=ys.take i.toNat,fun vs _=>match vs with|[.int _ i]=>xs.length - i.toNat|_=>0,⟨0,rfl,KpL.refl _ _,by omega,by omega,rfl⟩,?_⟩⟩
 ·refine⟨?_,KpL.refl _ _⟩
  have:xs≠ys:=by rintro rfl;exact hne rfl
  rw[decide_eq_false this]
 have hl:xs.length=ys.length:=by
  have:=Classical.not_not.1 he
  omega
 rintro n1 w1 ⟨i,hv,hk,hi0,hi1,ht⟩
 obtain rfl:=v1 hv
 constructor
 ·intro hlt
  have h1:n1.toNat<xs.length:=by omega
  have h2:n1.toNat<ys.length:=by omega
  obtain⟨ad,cs,rfl,hv1,hld1,_,_⟩:=(hx.kp0 hk).sl_get h1
  obtain⟨ad2,cs2,rfl,hv2,hld2,_,_⟩:=(hy.kp0 hk).sl_get h2
  obtain⟨rfl,hok1⟩:=hv1.attr
  obtain⟨rfl,hok2⟩:=hv2.attr
  refine⟨ad,rfl,hi0,hlt,_,_,hld1,ad2,rfl,hi0,by omega,_,_,hld2,?_⟩
  have hkey:(xs[n1.toNat].name == ys[n1.toNat].name&&xs[n1.toNat].type == ys[n1.toNat].type)=decide (xs[n1.toNat]=ys[n1.toNat]):=by
   generalize xs[n1.toNat]=x;generalize ys[n1.toNat]=y
   cases x;cases y;rw[Bool.eq_iff_iff];simp only[Bool.and_eq_true,Dp,beq_iff_eq,decide_eq_true_eq,cI.mk.injEq]
  refine⟨_,nZ (by kernel_rfl) (fun w=>EH w _ _ _ _),?_,?_⟩
  ·intro hb w2 hw2
   refine⟨?_,hk.trans hw2⟩
   have hne:xs[n1.toNat]≠ys[n1.toNat]:=by
    intro hc
    first
     |exact hb hc
     |(rw[decide_eq_true hc]at hkey;simp[hkey]at hb)
   rw[decide_eq_false (dU h1 h2 hne)]
  ·intro hb
   have heq:xs[n1.toNat]=ys[n1.toNat]:=by
    have:decide (xs[n1.toNat]=ys[n1.toNat])=true:=by rw[<-hkey];simpa using hb
    exact of_decide_eq_true this
   have e1:(n1+1).toNat=n1.toNat+1:=by omega
   refine⟨ae.2 (by omega),fun w3 hw3=>⟨⟨n1+1,rfl,hk.trans hw3,by omega,by omega,by rw[e1];exact eJ h1 h2 ht heq⟩,?_⟩⟩
   show xs.length - (n1+1).toNat<xs.length - n1.toNat
   omega
 ·intro hge
  refine⟨?_,hk⟩
  have e1:n1.toNat=xs.length:=by omega
  rw[e1,List.take_length,hl,List.take_length]at ht
  rw[decide_eq_true ht]
theorem qA{M M':List Nat}{w:World}{xs ys:List (Vl)}{a b:Option Addr}{n c m q:Nat}(hx:R (au cv) M w xs [.slice a n c])(hy:R (au cv) M' w ys [.slice b m q]):
 Calls Zz 203 #[.slice a n c,.slice b m q] w (aA (.bool (decide (xs=ys))) w):=by
 obtain⟨rfl,hn1,hn2⟩:=hx.sl_len
 obtain⟨rfl,hm1,hm2⟩:=hy.sl_len
 have hmx:az=140737488355328:=rfl
 refine ql ⟨fun hne=>?_,fun he=>⟨fun vs w'=>∃i,vs=[iv i]/\KpL [] w w'/\0<=i/\i<=xs.length/\xs.take i.toNat=ys.take i.toNat,fun vs _=>match vs with|[.int _ i]=>xs.length - i.toNat|_=>0,⟨0,rfl,KpL.refl _ _,by omega,by omega,rfl⟩,?_⟩⟩
 ·refine⟨?_,KpL.refl _ _⟩
  have:xs≠ys:=by rintro rfl;exact hne rfl
  rw[decide_eq_false this]
 have hl:xs.length=ys.length:=by
  have:=Classical.not_not.1 he
  omega
 rintro n1 w1 ⟨i,hv,hk,hi0,hi1,ht⟩
 obtain rfl:=v1 hv
 constructor
 ·intro hlt
  have h1:n1.toNat<xs.length:=by omega
  have h2:n1.toNat<ys.length:=by omega
  obtain⟨ad,cs,rfl,hv1,hld1,_,_⟩:=(hx.kp0 hk).sl_get h1
  obtain⟨ad2,cs2,rfl,hv2,hld2,_,_⟩:=(hy.kp0 hk).sl_get h2
  obtain⟨rfl,hok1⟩:=hv1.val
  obtain⟨rfl,hok2⟩:=hv2.val
  refine⟨ad,rfl,hi0,hlt,_,_,_,_,hld1,ad2,rfl,hi0,by omega,_,_,_,_,hld2,?_⟩
  have hkey:(xs[n1.toNat].k == ys[n1.toNat].k&&(xs[n1.toNat].n == ys[n1.toNat].n&&(xs[n1.toNat].d == ys[n1.toNat].d&&xs[n1.toNat].s == ys[n1.toNat].s)))=decide (xs[n1.toNat]=ys[n1.toNat]):=by
   generalize xs[n1.toNat]=x;generalize ys[n1.toNat]=y
   cases x;cases y;rw[Bool.eq_iff_iff];simp only[Bool.and_eq_true,Dp,beq_iff_eq,decide_eq_true_eq,Vl.mk.injEq]
  refine⟨_,nZ (by kernel_rfl) (fun w=>Dv w _ _ _ _ _ _ _ _),?_,?_⟩
  ·intro hb w2 hw2
   refine⟨?_,hk.trans hw2⟩
   have hne:xs[n1.toNat]≠ys[n1.toNat]:=by
    intro hc
    first
     |exact hb hc
     |(rw[decide_eq_true hc]at hkey;simp[hkey]at hb)
   rw[decide_eq_false (dU h1 h2 hne)]
  ·intro hb
   have heq:xs[n1.toNat]=ys[n1.toNat]:=by
    have:decide (xs[n1.toNat]=ys[n1.toNat])=true:=by rw[<-hkey];simpa using hb
    exact of_decide_eq_true this
   have e1:(n1+1).toNat=n1.toNat+1:=by omega
   refine⟨ae.2 (by omega),fun w3 hw3=>⟨⟨n1+1,rfl,hk.trans hw3,by omega,by omega,by rw[e1];exact eJ h1 h2 ht heq⟩,?_⟩⟩
   show xs.length - (n1+1).toNat<xs.length - n1.toNat
   omega
 ·intro hge
  refine⟨?_,hk⟩
  have e1:n1.toNat=xs.length:=by omega
  rw[e1,List.take_length,hl,List.take_length]at ht
  rw[decide_eq_true ht]
theorem fQ{M M':List Nat}{w:World}{xs ys:List Int}{a b:Option Addr}{n c m q:Nat}(hx:R (au (tI .i64)) M w xs [.slice a n c])(hy:R (au (tI .i64)) M' w ys [.slice b m q]):
 Calls Zz 173 #[.slice a n c,.slice b m q] w (aA (iv (aY xs ys)) w):=by
 obtain⟨rfl,hn1,hn2⟩:=hx.sl_len
 obtain⟨rfl,hm1,hm2⟩:=hy.sl_len
 have hmx:az=140737488355328:=rfl
 refine sJ ⟨fun vs w'=>∃i:Nat,vs=[iv (i:Int)]/\i<=xs.length/\i<=ys.length/\KpL [] w w'/\aY (xs.drop i) (ys.drop i)=aY xs ys,fun vs _=>match vs with|[.int _ i]=>xs.length - i.toNat|_=>0,
  ⟨0,rfl,by omega,by omega,KpL.refl _ _,rfl⟩,?_⟩
 rintro n1 w1 ⟨i,hv,hi,hi2,hk,he⟩
 obtain rfl:=v1 hv
 have tail:(i=xs.length∨i=ys.length)->((xs.length:Int)<ys.length->aA (iv (aY xs ys)) w (.returned (iv (-1))) w1)/\(¬(xs.length:Int)<ys.length->((ys.length:Int)<xs.length->aA (iv (aY xs ys)) w (.returned (iv 1)) w1)/\(¬(ys.length:Int)<xs.length->aA (iv (aY xs ys)) w (.returned (iv 0)) w1)):=by
  intro hend
  have l1:(xs.drop i).length=xs.length - i:=List.length_drop ..
  have l2:(ys.drop i).length=ys.length - i:=List.length_drop ..
  rw[<-he]
  cases h1:xs.drop i with
  |nil =>
   rw[h1]at l1
   cases h2:ys.drop i with
   |nil =>
    rw[h2]at l2
    simp only[List.length_nil]at l1 l2
    exact⟨fun hc=>by omega,fun _=>⟨fun hc=>by omega,fun _=>⟨rfl,hk⟩⟩⟩
   |cons y s =>
    rw[h2]at l2
    simp only[List.length_nil,List.length_cons]at l1 l2
    exact⟨fun _=>⟨rfl,hk⟩,fun hc=>by omega⟩
  |cons x r =>
   rw[h1]at l1
   cases h2:ys.drop i with
   |nil =>
    rw[h2]at l2
    simp only[List.length_nil,List.length_cons]at l1 l2
    exact⟨fun hc=>by omega,fun _=>⟨fun _=>⟨rfl,hk⟩,fun hc=>by omega⟩⟩
   |cons y s =>
    rw[h2]at l2
    simp only[List.length_cons]at l1 l2
    omega
 refine⟨fun hlt=>⟨fun hlt2=>?_,fun hge=>tail (.inr (by omega))⟩,fun hge=>tail (.inl (by omega))⟩
 have h1:i<xs.length:=by omega
 have h2:i<ys.length:=by omega
 obtain⟨ad,cs,rfl,hv1,hld1,_,_⟩:=(hx.kp0 hk).sl_get h1
 obtain⟨ad2,cs2,rfl,hv2,hld2,_,_⟩:=(hy.kp0 hk).sl_get h2
 obtain⟨rfl,_⟩:=hv1.intD
 obtain⟨rfl,_⟩:=hv2.intD
 rw[List.drop_eq_getElem_cons h1,List.drop_eq_getElem_cons h2,aY]at he
 unfold eN at he
 refine⟨ad,rfl,by omega,hlt,_,hld1,ad2,rfl,by omega,by omega,_,hld2,fun hl w2 hw2=>⟨?_,hk.trans hw2⟩,fun hnl=>⟨ad,rfl,by omega,hlt,_,hld1,ad2,rfl,by omega,by omega,_,hld2,fun hl w3 hw3=>⟨?_,hk.trans hw3⟩,fun hnl2=>⟨ae.2 (by omega),fun w4 hw4=>⟨⟨i+1,rfl,by omega,by omega,hk.trans hw4,?_⟩,by dsimp only;omega⟩⟩⟩⟩
 ·rw[if_pos hl,if_pos (by omega)]at he
  rw[<-he]
 ·rw[if_neg hnl,if_pos hl,if_pos (by omega)]at he
  rw[<-he]
 ·rw[if_neg hnl,if_neg hnl2,if_neg (by omega)]at he
  exact he
end Go.Vc
namespace Go.Vc
open Go Go.Proofs
end Go.Vc
