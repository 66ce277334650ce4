/- 'tesseractlaw10.IngestKnown', which takes no input, returns true. Conditions: none. -/
import Derived.Test.YtlmpniofhabmiaaGreatKnoD
import Derived.Below
import Derived.ChangeOld
import Derived.OpenShut
import Derived.ProofKit
import Derived.ShutString
import Derived.SizedLaws
import Derived.Test.YtlmpniofhabmiaaGreatRows
import Derived.WalkKit
set_option linter.unusedVariables false
set_option linter.unusedSimpArgs false
set_option linter.unusedSectionVars false
namespace Go.Vc
open Go Go.Proofs
theorem ezC:ElZ Tryz.prog 140 56 (.slice none 0 0) 24:=elZ_of (i:=(Tryz.prog.info? 56).getD default) (z:=.slice none 0 0) (by kernel_rfl) (by kernel_rfl) (by kernel_rfl) rfl (by kernel_rfl) (by kernel_rfl)
def itOf(r n:Nat)(w:World):Nat:=match w.heap[r]? with
 |some (Obj.mapIter _ _ vis _)=>n - vis.size
 |_=>0
theorem itOf_at{w:World}{r m n:Nat}{arr:Array MapEntry}{clock:Nat}{vis:List Nat}(h:ItAt w r m arr clock vis):itOf r n w=n - vis.length:=by
 unfold itOf
 rw[h.it]
 simp
theorem cellsI_app{arrays:List Nm}{ps:List (Pl×Sta)}{p:Pl×Sta}{i:Nat}:cellsI arrays (ps++[p]) i=cellsI arrays ps i++(cellP arrays i p).toList:=by
 unfold cellsI
 rw[List.filterMap_append]
 cases h:cellP arrays i p<;>simp[h]
structure DbIt (w:World) (it cb m:Nat) (arr:Array MapEntry) (clock:Nat) (arrays:List Nm) (places:List (Pl×Sta)) (vis:List Nat) (sl:List Slc) (w':World):Prop where
 hit:ItAt w' it m arr clock vis
 kp:KpL [] w w'
 bk:Bkts [it] w' cb 56 ((List.range arrays.length).map (cellsI arrays (atIdx places vis))) sl
 new:∀(i:Nat) (x:Slc),sl[i]?=some x→∀b∈blkL x.1,w.heap.size≤b
set_option maxHeartbeats 8000000 in
theorem sDB_ok{M0 M M' F Fd:List Nat}{w:World}{s l d:Nat}{num nxt:Int}{st:Sto}{k:Dk}(h:StoreAt M0 w s l d num nxt st F)(hd:DkAt M' w d k Fd)(hv:StoV st)(hM:∀b∈M,b<w.heap.size):
 Calls Tryz.prog 16 #[.pointer (some ⟨s,0,none⟩)] w fun e w'=>KpL [] w w'∧if readyE st k≠0 then e=.returned (.tuple #[.slice none 0 0,.int .i64 (readyE st k)]) else
  ∃out a n c,e=.returned (.tuple #[.slice a n c,.int .i64 0])∧out.length=st.arrays.length∧DbRel st.arrays st.places out∧R (tSl tNm) M w' out [.slice a n c]:=by
 have hmx:maxSl=140737488355328:=rfl
 refine sDB_vc ⟨(ready_ok h hd).mono ?_⟩
 rintro e w1 ⟨rfl,hw1⟩
 refine⟨_,rfl,hw1,fun hne=>⟨hw1,by rw[if_pos hne]⟩,fun hz=>?_⟩
 obtain⟨m,ra,rn,rc,qa,qn,qc,hI,hl,rfl⟩:=h
 have han:=hv.an
 have hpn:=hv.pn
 obtain⟨hrn,_,_⟩:=hI.arr.sl_len
 subst hrn
 have hsl:=block_lt hI.hs
 have ld:∀{w':World} (i:Nat) (v:Value),KpL [] w w'→[Value.pointer (some ⟨l,0,none⟩),.int .i64 st.id,.slice ra st.arrays.length rc,.map (some m),.slice qa qn qc,.int .i64 st.use][i]?=some v→LdA w' ((⟨s,0,none⟩:Addr).add i) [v]:=by
  intro w' i v hk hv
  rw[add_lit]
  refine ldA_blk ((hk.blk s hsl (by simp)).trans hI.hs) _ _ ?_
  apply List.ext_getElem?
  intro j
  cases j with
  |zero=>simpa using hv
  |succ j=>simp;omega
 obtain⟨arr,clock,hM0⟩:=hI.pls
 refine⟨_,_,_,ld 2 _ hw1 rfl,ev_make ezC (by omega) (by omega) (by omega) fun w2 hb2 hw2=>⟨_,_,_,rfl,[],hw2,_,ld 3 _ (hw1.trans hw2) rfl,?_⟩⟩
 have hk02:=hw1.trans hw2
 have s1:=hw1.size
 generalize hcb:w1.heap.size=cb at *
 rw[Int.toNat_natCast]at hb2 ⊢
 have hcbl:=block_lt hb2
 have hM2:=hM0.step hk02 (by simp) (M':=s::l::(blkL qa++M0)) fun b hb=>.inl hb
 refine ev_range u114 hM2 fun w3 hit3 hw3=>⟨_,rfl,[],hw3,?_⟩
 generalize hitb:w2.heap.size=it at *
 have hk03:=hk02.trans hw3
 have hitl:=block_lt hit3.it
 have hBk3:Bkts [it] w3 cb 56 _ _:=Bkts.new (n:=st.arrays.length) ((hw3.blk cb (by omega) (by simp)).trans hb2) (by simpa using hitl) (by simp;omega)
 have e0:(List.range st.arrays.length).map (cellsI st.arrays (atIdx st.places []))=List.replicate st.arrays.length []:=by
  apply List.ext_getElem?
  intro i
  simp only[List.getElem?_map,List.getElem?_range,List.getElem?_replicate]
  split<;>rename_i hi
  ·rw[List.getElem?_range hi];simp[cellsI,atIdx]
  ·rw[List.getElem?_eq_none (by simp;omega)];rfl
 rw[←e0]at hBk3
 refine⟨fun _ w'=>∃vis sl,DbIt w it cb m arr clock st.arrays st.places vis sl w',fun _ w'=>itOf it (st.places.length+1) w',⟨[],_,hit3,hk03,hBk3,fun i x hx b hb=>?_⟩,?_⟩
 ·rw[List.getElem?_replicate]at hx
  split at hx
  ·simp at hx;subst hx;simp[blkL]at hb
  ·cases hx
 rintro w4 ⟨vis,sl,hit,hk4,hB,hnew⟩
 have s4:=hk4.size
 have itl:=block_lt hit.it
 have cbl:=block_lt hB.hb
 generalize hall_:(sl.flatMap fun x=>blkL x.1)++[cb,it]++(s::l::(blkL qa++M0))=Mb
 have hMk:∀{w':World},KpL [] w w'→MapIn Pl.enc tSta Mb w' m st.places arr clock:=by
  intro w' hk
  refine hM0.step hk (by simp) fun b hb=>?_
  rw[←hall_]at hb
  simp only[List.mem_append,List.mem_flatMap,List.mem_cons,List.not_mem_nil,or_false]at hb
  rcases hb with (⟨x,hx,hb⟩|rfl|rfl)|hb
  ·obtain⟨i,hi⟩:=List.mem_iff_getElem?.1 hx
   exact .inr (hnew i x hi b hb)
  ·exact .inr (by omega)
  ·exact .inr (by omega)
  ·exact .inl (by simpa using hb)
 have hM4:=hMk hk4
 have hal:arr.size=st.places.length:=hM4.len
 refine ev_next_map hM4 hit (fun hall w5 hk5 hh5=>.inl ⟨rfl,[],hk5,?_⟩) (fun i p cs w5 hiv hp hRp hit5 hk5=>.inr ?_)
 ·
  have hperm:=atIdx_perm (l:=st.places) (visited_perm hit.nd (fun i hi=>by have:=hit.lt i hi;omega) hall)
  have hk05:=hk4.trans hk5
  have hB5:=hB.kp0 hk5
  have s5:=hk05.size
  refine⟨_,_,_,ld 2 _ hk05 rfl,fun vs w'=>∃(j:Nat) (out:List Nm) (a:Option Addr) (n c:Nat),vs=[.slice a n c,.int .i64 (j:Int)]∧j≤st.arrays.length∧KpL [] w5 w'∧Acc tNm M w' out a n c∧(∀b∈blkL a,w5.heap.size≤b)∧out.length=j∧DbRel st.arrays st.places out,
   fun vs _=>match vs with|[_,.int _ i]=>st.arrays.length - i.toNat|_=>0,⟨0,[],none,0,0,rfl,by omega,KpL.refl _ _,Acc.nil' _ (fun b hb=>by have:=hM b hb;omega),by simp[blkL],rfl,fun i y hy=>by simp at hy⟩,?_⟩
  rintro a4 k7 k8 n2 w6 ⟨j,out,_,_,_,hvs,hj,hk6,hA6,hnew6,hol,hrel⟩
  simp only[List.cons.injEq,Value.int.injEq,Value.slice.injEq,true_and,and_true]at hvs
  obtain⟨⟨rfl,rfl,rfl⟩,rfl⟩:=hvs
  have hk06:=hk05.trans hk6
  have s6:=hk6.size
  constructor
  ·intro hlt
   have gj:j<st.arrays.length:=by omega
   have hR6:=hI.arr.kp0 hk06
   obtain⟨ad,cs,rfl,hv1,hld1,_,_⟩:=hR6.sl_get gj
   obtain⟨b1,p1,q1,b2,p2,q2,b3,p3,q3,rfl,hsz,hx1,hx2,hx3⟩:=hv1.nm
   have hxm:st.arrays[j]?=some st.arrays[j]:=List.getElem?_eq_getElem gj
   have hsch:=hv.sch _ (List.getElem_mem gj)
   generalize hxx:st.arrays[j]=x at *
   have hsj:j<sl.length:=by rw[hB5.len];simpa using gj
   have hslj:sl[j]?=some sl[j]:=List.getElem?_eq_getElem hsj
   have hcj:((List.range st.arrays.length).map (cellsI st.arrays (atIdx st.places vis)))[j]?=some (cellsI st.arrays (atIdx st.places vis) j):=by simp[List.getElem?_range gj]
   have hAj:=(hB5.acc j _ _ hslj hcj).kp0 hk6
   have hcl:(cellsI st.arrays (atIdx st.places vis) j).length≤4000:=by
    have h1:=List.length_filterMap_le (cellP st.arrays j) (atIdx st.places vis)
    have h2:=hperm.length_eq
    unfold cellsI
    omega
   have hRj:=hAj.done (by have:=hAj.len;omega)
   have hld3:LdA w6 ((⟨cb,0,none⟩:Addr).add (j*1)) [slV sl[j]]:=by
    rw[add_lit]
    refine ldA_blk ((hk6.blk cb (block_lt hB5.hb) (by simp)).trans hB5.hb) _ _ ?_
    apply List.ext_getElem?
    intro i
    cases i with
    |zero=>simp[hsj]
    |succ i=>simp;omega
   have hok:∀c∈cellsI st.arrays (atIdx st.places vis) j,cellE x.arr.dims x.arr.attrs c=0:=cellsI_ok hv.sch (fun p hp=>hv.pls p (hperm.mem_iff.1 hp)) hxm
   have hnd:((cellsI st.arrays (atIdx st.places vis) j).map (·.at_)).Nodup:=cellsI_nd (i:=j) hv.sch (fun p hp=>hv.pls p (hperm.mem_iff.1 hp)) (((hperm.map (·.1)).nodup_iff).2 hv.keys)
   have hpc:(cellsI st.arrays (atIdx st.places vis) j).Perm (cellsI st.arrays st.places j):=hperm.filterMap _
   have hlA:=hA6.len
   have mk:∀{wa:World} (E:List Nat),(∀b∈E,b<wa.heap.size)→KpL [] w6 wa→Calls Tryz.prog 69 #[.slice b1 p1 q1,.slice b2 p2 q2,slV sl[j]] wa fun e w'=>∃b1 p1 q1 b2 p2 q2 b3 p3 q3 cells',e=.returned (.tuple #[.agg #[.slice b1 p1 q1,.slice b2 p2 q2,.slice b3 p3 q3],.int .i64 0])∧KpL [] wa w'∧
    cells'.Perm (cellsI st.arrays (atIdx st.places vis) j)∧CSorted cells'∧R (tSl tDim) (E++(blkL a4++M)) w' x.arr.dims [.slice b1 p1 q1]∧R (tSl tAttr) (E++(blkL a4++M)) w' x.arr.attrs [.slice b2 p2 q2]∧R (tSl tCell) (E++(blkL a4++M)) w' cells' [.slice b3 p3 q3]:=by
    intro wa E hE hka
    have sa:=hka.size
    exact make_ok (fun b hb=>by
     rcases List.mem_append.1 hb with hb|hb
     ·exact hE b hb
     rcases List.mem_append.1 hb with hb|hb
     ·have:=(hA6.blk_lt b hb).1;omega
     ·have:=hA6.mlt b hb;omega) (hx1.kp0 hka) (hx2.kp0 hka) (hRj.kp0 hka) hsch (by omega) hok hnd
   have next:∀{wb wc:World} {kx:Nat} {b1 b2 b3:Option Addr} {p1 q1 p2 q2 p3 q3:Nat} {cells':List Cell},KpL [] w6 wb→cells'.Perm (cellsI st.arrays (atIdx st.places vis) j)→CSorted cells'→R (tSl tDim) (blkL a4++M) wb x.arr.dims [.slice b1 p1 q1]→R (tSl tAttr) (blkL a4++M) wb x.arr.attrs [.slice b2 p2 q2]→R (tSl tCell) (blkL a4++M) wb cells' [.slice b3 p3 q3]→
    wb.heap[kx]?=some (.cells #[.string x.name,.slice b1 p1 q1,.slice b2 p2 q2,.slice b3 p3 q3] 60 (0,0))→∀{Q:Value→World→Prop},(∀a' c' w',KpL (blkL a4) wb w'→(∃(j':Nat) (out:List Nm) (a:Option Addr) (n c:Nat),[Value.slice a' (k7+1) c',.int .i64 ((j:Int)+1)]=[.slice a n c,.int .i64 (j':Int)]∧j'≤st.arrays.length∧KpL [] w5 w'∧Acc tNm M w' out a n c∧(∀b∈blkL a,w5.heap.size≤b)∧out.length=j'∧DbRel st.arrays st.places out)→Q (.slice a' (k7+1) c') w')→
    Ev Tryz.prog (Builtin.append_ #[23,23] 23 #[.slice a4 k7 k8,.slice (some ⟨kx,0,none⟩) 1 1]) wb Q:=by
    intro wb wc kx b1 b2 b3 p1 q1 p2 q2 p3 q3 cells' hkb hpm hso h1 h2 h3 hbk Q hQ
    refine ev_append1 apNm (hA6.kp0 hkb) hbk (R.mkNm (c:=⟨x.name,⟨x.arr.dims,x.arr.attrs,cells'⟩⟩) hsz h1 h2 h3) (by omega) fun a' c' w' hC=>hQ a' c' w' hC.kp ⟨j+1,_,a',k7+1,c',rfl,by omega,?_,hC.acc,?_,by simp[hol],?_⟩
    ·exact(hk6.trans hkb).more hC.kp fun b hb=>.inr (hnew6 b hb)
    ·intro b hb
     rcases hC.own b hb with hb|hb
     ·exact hnew6 b hb
     ·have:=hkb.size;omega
    ·intro i y hy
     rw[List.getElem?_append]at hy
     split at hy
     ·exact hrel i y hy
     ·rename_i hge
      have hi:i=j:=by
       have:=(List.getElem?_eq_some_iff.1 hy).1
       simp at this
       omega
      subst hi
      rw[hol]at hy
      simp at hy
      subst hy
      exact⟨x,hxm,rfl,rfl,rfl,hpm.trans hpc,hso⟩
   refine⟨ad,rfl,by omega,hlt,_,_,_,_,_,_,_,_,_,_,hld1,fun k15 hk15=>⟨⟨cb,0,none⟩,rfl,by omega,hlt,_,_,_,hld3,fun w7 hw7 hkn7=>⟨(mk [] (by simp) hw7).mono ?_⟩,fun k28 hk28 w12 hw12 hkn12=>⟨(mk [k28] (by simpa using block_lt hkn12.1) hw12).mono ?_⟩⟩⟩
   ·rintro e w8 ⟨c1,p1',q1',c2,p2',q2',c3,p3',q3',cells',rfl,hw8,hpm,hso,h1,h2,h3⟩
    refine⟨_,_,_,_,_,_,_,_,_,_,rfl,hw8,fun k24 hk24=>⟨fun hc=>absurd rfl hc,fun _ k25 hk25 w10 hw10 hkn10=>?_⟩⟩
    have s7:=hw7.size
    have s8:=hw8.size
    refine next ((hw7.trans hw8).trans hw10) hpm hso (h1.kp0 hw10) (h2.kp0 hw10) (h3.kp0 hw10) hkn10.1 (wc:=w10) fun a' c' w' hkp hinv=>⟨_,_,_,rfl,_,hkp,⟨⟨fun hm=>by have:=(hA6.blk_lt _ hm).1;omega⟩,⟨fun hm=>by have:=(hA6.blk_lt _ hm).1;omega⟩,⟨fun hm=>by have:=(hA6.blk_lt _ hm).1;omega⟩⟩,ini_i64.2 (by omega),fun _=>⟨hinv,by dsimp only;omega⟩⟩
   ·rintro e w13 ⟨c1,p1',q1',c2,p2',q2',c3,p3',q3',cells',rfl,hw13,hpm,hso,h1,h2,h3⟩
    have hk28l:=block_lt hkn12.1
    have s12:=hw12.size
    have s13:=hw13.size
    refine⟨_,_,_,_,_,_,_,_,_,_,rfl,hw13,fun hc=>absurd rfl hc,fun _ k35 hk35 w15 hw15 hkn15=>?_⟩
    have hk28M:k28∉blkL a4++M:=fun hm=>by
     rcases List.mem_append.1 hm with hm|hm
     ·have:=(hA6.blk_lt _ hm).1;omega
     ·have:=hA6.mlt _ hm;omega
    have hk615:KpL [] w6 w15:=(hw12.trans hw13).more hw15 (by simp;omega)
    have up:∀{α:Type} {t:Ty α} {x:α} {cs:List Value},R t ([k28]++(blkL a4++M)) w13 x cs→R t (blkL a4++M) w15 x cs:=fun hr=>(hr.kp hw15 (by simp)).weak fun b hb=>by simp only[List.cons_append,List.nil_append,List.mem_cons];exact .inr hb
    refine next hk615 hpm hso (up h1) (up h2) (up h3) hkn15.1 (wc:=w15) fun a' c' w' hkp hinv=>⟨_,_,_,rfl,_,hkp,⟨⟨fun hm=>by have:=(hA6.blk_lt _ hm).1;omega⟩,⟨fun hm=>hk28M (List.mem_append_left _ hm)⟩,⟨fun hm=>by have:=(hA6.blk_lt _ hm).1;omega⟩⟩,ini_i64.2 (by omega),fun _=>⟨hinv,by dsimp only;omega⟩⟩
  ·intro hge
   have hje:j=st.arrays.length:=by omega
   subst hje
   exact⟨hk06,by rw[if_neg hz];exact⟨out,a4,k7,k8,rfl,hol,hrel,hA6.done (by have:=hA6.len;omega)⟩⟩
 ·obtain⟨va,vn,vc,rfl,hbi,hRv⟩:=hRp.sta
  obtain⟨hil,rfl⟩:=List.getElem?_eq_some_iff.1 hp
  have hk05:KpL [] w w5:=hk4.more hk5 (by simp;omega)
  have s5:=hk05.size
  have hM5:=hMk hk05
  have hvl:vis.length+1≤st.places.length:=by
   have h1:=List.Nodup.length_le_of_subset hit5.nd (l₂:=List.range arr.size) (fun i hi=>List.mem_range.2 (hit5.lt i hi))
   simpa[hal]using h1
  have hat:atIdx st.places (vis++[i])=atIdx st.places vis++[st.places[i]]:=by unfold atIdx;rw[List.map_append];simp[hil]
  refine⟨_,_,_,_,_,_,_,_,_,rfl,[it],hk5,ev_entry_map hM5 hit5 fun p' cs' hp' hRp'=>?_⟩
  rw[List.getElem?_eq_getElem hil,Option.some.injEq]at hp'
  subst hp'
  have hpo:=hv.pls _ (List.getElem_mem hil)
  have hkey:=hI.keys _ (List.getElem_mem hil)
  generalize st.places[i]=p at *
  obtain⟨va',vn',vc',rfl,_,hRv'⟩:=hRp'.sta
  obtain⟨hvn,_,_⟩:=hRv'.sl_len
  subst hvn
  obtain⟨g1,g2,g3,g4,g5,g6,g7,g8⟩:=hpo.dims hv.sch
  have ga0:=hpo.a0
  have mea:∀{w':World},ItAt w' it m arr clock (vis++[i])→itOf it (st.places.length+1) w'<itOf it (st.places.length+1) w4:=fun h=>by
   rw[itOf_at h,itOf_at hit];simp;omega
  refine⟨_,_,_,_,_,_,_,_,_,rfl,[],KpL.refl _ _,fun k42 hk42 k43 hk43=>⟨fun hpos=>?_,fun hnp w23 hw23 _=>?_⟩⟩
  ·obtain⟨x,hx,_⟩:=hpo.ex
   have hR5:=hI.arr.kp0 hk05
   obtain⟨ad,cs,rfl,hv1,_,_,_,hpt⟩:=hR5.sl_get2 g1
   have hxe:st.arrays[p.1.a.toNat]=x:=by rw[List.getElem?_eq_getElem g1]at hx;exact Option.some.inj hx
   rw[hxe]at hv1
   obtain⟨b1,p1,q1,b2,p2,q2,b3,p3,q3,rfl,hsz,hx1,hx2,hx3⟩:=hv1.nm
   obtain⟨hp1,_,_⟩:=hx1.sl_len
   have hnd:ndims st.arrays p.1.a=x.arr.dims.length:=by unfold ndims;rw[hx]
   have hsj:p.1.a.toNat<sl.length:=by rw[hB.len];simpa using g1
   have hslj:sl[p.1.a.toNat]?=some sl[p.1.a.toNat]:=List.getElem?_eq_getElem hsj
   have hcj:((List.range st.arrays.length).map (cellsI st.arrays (atIdx st.places vis)))[p.1.a.toNat]?=some (cellsI st.arrays (atIdx st.places vis) p.1.a.toNat):=by simp[List.getElem?_range g1]
   have hB5:=hB.kp hk5 (by simp)
   have hld3:LdA w5 ((⟨cb,0,none⟩:Addr).add (p.1.a.toNat*1)) [slV sl[p.1.a.toNat]]:=by
    rw[add_lit]
    refine ldA_blk hB5.hb _ _ ?_
    apply List.ext_getElem?
    intro i
    cases i with
    |zero=>simp[hsj]
    |succ i=>simp;omega
   have hxn:=hnew _ _ hslj
   generalize sl[p.1.a.toNat]=xs at *
   obtain⟨xa,xn,xc⟩:=xs
   have hps:=pv_sliceArr (P:=Tryz.prog) (at_:=141) u141' (sz:=1) s3 (ad:=⟨k42,0+1,none⟩) (l:=0) (h:=p1) (lo:=none) (hi:=some (.int .i64 (p1:Int))) (.inr ⟨rfl,rfl⟩) (.inl rfl) (by omega) (by omega)
   refine⟨_,_,_,ld 2 _ hk05 rfl,ad,rfl,ga0,by omega,b1,p1,q1,by rw[addr0];exact hpt 1 [_] rfl,⟨cb,0,none⟩,rfl,ga0,by omega,xa,xn,xc,hld3,_,_,_,hps,fun w18 hw18 hkn18=>?_⟩
   have s18:=hw18.size
   have hk018:=hk05.trans hw18
   have hRco:R (tSl (tI .i64)) [] w18 (p.1.co.take x.arr.dims.length) [.slice (some ((⟨k42,0+1,none⟩:Addr).add (0*1))) p1 (4 - 0)]:=by
    have hh:=(R.co (p:=p.1) hkn18.2 hkey).sub 0 p1 (by omega) (by omega)
    rw[List.drop_zero,Nat.sub_zero,Nat.sub_zero,hp1]at hh
    rw[hp1]
    simpa using hh
   have hA18:=(hB5.acc _ _ _ hslj hcj).kp0 hw18
   have hMl:∀b∈blkL xa++(oth sl p.1.a.toNat++cb::[it]),b<w18.heap.size:=by
    intro b hb
    rcases List.mem_append.1 hb with hb|hb
    ·exact(hA18.blk_lt b hb).1
    ·exact hA18.mlt b hb
   refine⟨(clone68_ok (M:=blkL xa++(oth sl p.1.a.toNat++cb::[it])) hMl (by omega) hRco).mono ?_⟩
   rintro e w19 ⟨a23,n23,c23,rfl,hV⟩
   have hRat:=hV.acc.done (by have:=hV.acc.len;simp[Pl.co]at this;omega)
   refine⟨_,_,_,rfl,hV.kpn,fun k54 hk54 w20 hw20 hkn20=>?_⟩
   have hk1820:=hV.kpn.trans hw20
   have s20:=hk1820.size
   have hk520:=hw18.trans hk1820
   have hB20:=hB5.kp0 hk520
   have hvals:R (tSl tVal) (blkL xa++(oth sl p.1.a.toNat++cb::[it])) w20 p.2.vals [.slice va' p.2.vals.length vc']:=by
    refine(hRv'.kp0 hk520).weak fun b hb=>?_
    refine List.mem_cons_of_mem _ ?_
    rw[←hall_]
    simp only[List.mem_append,List.mem_flatMap,List.mem_cons,List.not_mem_nil,or_false]at hb ⊢
    rcases hb with hb|hb|hb
    ·exact .inl (.inl ⟨_,List.mem_of_getElem? hslj,hb⟩)
    ·obtain⟨k,z,_,hz,hbz⟩:=mem_oth.1 hb
     exact .inl (.inl ⟨z,List.mem_of_getElem? hz,hbz⟩)
    ·exact .inl (.inr hb)
   have hA20:=hB20.acc _ _ _ hslj hcj
   have hlA:=hA20.len
   have hcl:(cellsI st.arrays (atIdx st.places vis) p.1.a.toNat).length≤4000:=by
    have h1:=List.length_filterMap_le (cellP st.arrays p.1.a.toNat) (atIdx st.places vis)
    unfold cellsI
    unfold atIdx at h1 ⊢
    rw[List.length_map]at h1
    omega
   have hxb:=hB20.blk_lt hslj
   refine ev_append1 apC hA20 hkn20.1 (R.mkCell (c:=⟨p.1.co.take x.arr.dims.length,p.2.vals⟩) (hRat.kp0 hw20) hvals) (by dsimp only at hlA ⊢;omega) fun a24 c24 w21 hC=>⟨_,_,_,rfl,_,hC.kp,⟨⟨fun hm=>?_⟩,⟨fun hm=>?_⟩,⟨fun hm=>?_⟩⟩,fun hkn21=>⟨⟨ldA_blk hkn21.2.2 0 [_] rfl,trivial⟩,⟨cb,0,none⟩,rfl,ga0,by omega,fun _=>?_⟩⟩
   ·have:=(hA18.blk_lt _ hm).1;have:=hV.kpn.size;omega
   ·have:=(hB5.blk_lt hslj _ hm).1;omega
   ·have:=(hB5.blk_lt hslj _ hm).1;omega
   obtain⟨t1,t2,t3,t4,t5⟩:=hB20.set (y:=(a24,xn+1,c24)) hslj hcj hC
   have hcbs:cb<w5.heap.size:=block_lt hB5.hb
   have s19:=hV.kpn.size
   refine⟨t4,t5,⟨⟨by rw[add_lit];simp;omega⟩,⟨by rw[add_lit];simp;omega⟩,⟨by rw[add_lit];simp;omega⟩⟩,?_⟩
   rintro w22 rfl _
   have hit22:=((hit5.keep hk520 (by simp)).keep hC.kp (fun hm=>(hxb it hm).2.2 (by simp))).keep t3 (by simp;omega)
   refine⟨⟨vis++[i],sl.set p.1.a.toNat (a24,xn+1,c24),hit22,?_,?_,?_⟩,mea hit22⟩
   ·exact((hk05.trans hk520).more hC.kp fun b hb=>.inr (hxn b hb)).more t3 (by simp;omega)
   ·have e1:(List.range st.arrays.length).map (cellsI st.arrays (atIdx st.places (vis++[i])))=((List.range st.arrays.length).map (cellsI st.arrays (atIdx st.places vis))).set p.1.a.toNat (cellsI st.arrays (atIdx st.places vis) p.1.a.toNat++[⟨p.1.co.take x.arr.dims.length,p.2.vals⟩]):=by
     apply List.ext_getElem?
     intro j
     rw[List.getElem?_set,hat]
     by_cases hj:p.1.a.toNat=j
     ·subst hj
      rw[if_pos rfl,if_pos (by simpa using g1)]
      simp only[List.getElem?_map,List.getElem?_range g1,Option.map_some,Option.some.injEq]
      rw[cellsI_app]
      congr 1
      unfold cellP
      rw[if_pos ⟨by omega,by omega⟩,hnd]
      rfl
     ·rw[if_neg hj]
      simp only[List.getElem?_map]
      by_cases hjl:j<st.arrays.length
      ·simp only[List.getElem?_range hjl,Option.map_some,Option.some.injEq]
       rw[cellsI_app]
       unfold cellP
       rw[if_neg (by omega)]
       simp
      ·rw[List.getElem?_eq_none (by simp;omega)];rfl
    rw[e1]
    exact t1
   ·intro j z hz b hb
    rw[List.getElem?_set]at hz
    by_cases hj:p.1.a.toNat=j
    ·rw[if_pos hj]at hz
     have hz':(a24,xn+1,c24)=z:=by
      subst hj
      rw[if_pos hsj]at hz
      exact Option.some.inj hz
     subst hz'
     rcases hC.own b hb with hb|hb
     ·exact hxn b hb
     ·have:=hk520.size;omega
    ·rw[if_neg hj]at hz
     exact hnew j z hz b hb
  ·have hit23:=hit5.keep hw23 (by simp)
   refine⟨⟨vis++[i],sl,hit23,hk05.trans hw23,?_,hnew⟩,mea hit23⟩
   have e1:(List.range st.arrays.length).map (cellsI st.arrays (atIdx st.places (vis++[i])))=(List.range st.arrays.length).map (cellsI st.arrays (atIdx st.places vis)):=by
    apply List.map_congr_left
    intro j _
    rw[hat,cellsI_app]
    unfold cellP
    rw[if_neg (by omega)]
    simp
   rw[e1]
   exact(hB.kp hk5 (by simp)).kp0 hw23
end Go.Vc
namespace Go.Vc
open Go Go.Proofs
def Dk.zeroL:Nat→Nat→Dk→Int×Dk
 |0,_,k=>k.sync
 |f+1,i,k=>if (k.write i zeros).1≠0 then k.write i zeros else Dk.zeroL f (i+1) (k.write i zeros).2
def Dk.zero(k:Dk):Int×Dk:=Dk.zeroL k.n 0 k
theorem fZero_ok{M F:List Nat}{w:World}{d v:Nat}{k:Dk}(h:DkAt M w d k F)(hv:w.heap[v]?=some (.cells #[.pointer (some ⟨d,0,none⟩)] 40 (0,0)))(hvM:v∈M)(hpl:k.pend.length≤1000000):
 Calls Tryz.prog 79 #[.pointer (some ⟨v,0,none⟩)] w fun e w'=>e=.returned (.int .i64 k.zero.1)∧DkTo M F w d k.zero.2 w':=by
 obtain⟨s,hs1,hs2,hs3,hs4⟩:=h.ok.secs
 refine fZero_vc hv fun _=>⟨(dSectors_ok h).mono ?_⟩
 rintro e w1 ⟨rfl,hw1⟩
 have esec:k.secs=k.n:=rfl
 rw[esec]
 refine⟨_,rfl,hw1,fun vs w'=>∃(i:Nat),∃k' F',vs=[.int .i64 (i:Int)]∧i≤k.n∧DkAt M w' d k' F'∧Own F w F' w'∧k'.n=k.n∧k'.pend.length≤1000000+i∧Dk.zeroL (k.n - i) i k'=k.zero,
  fun vs _=>match vs with|[.int _ i]=>k.n - i.toNat|_=>0,fun _=>⟨0,k,F,rfl,by omega,h.kp0 hw1,Own.of0 hw1,rfl,by omega,rfl⟩,?_⟩
 rintro n2 w2 ⟨i,k1,F1,hvs,hi,hD1,hO1,hn1,hp1,he1⟩
 simp only[List.cons.injEq,Value.int.injEq,true_and,and_true]at hvs
 subst hvs
 have hsc:=hD1.ok.secs
 constructor
 ·intro hlt w3 hw3 hkn3
  have e1:k.n - i=(k.n - (i+1))+1:=by omega
  rw[e1,Dk.zeroL]at he1
  have s3:=hw3.size
  refine ev_make ez5 (by omega) (by omega) (by omega) fun w4 hb4 hw4=>⟨_,_,_,rfl,[],hw4,⟨by simp⟩,fun hkn4=>⟨⟨ldA_blk hkn4 0 [_] rfl,trivial⟩,fun _=>?_⟩⟩
  have hk24:=hw3.trans hw4
  have hD4:=hD1.kp0 hk24
  have hzb:w4.heap[w3.heap.size]?=some (.cells ((zeros.map (Value.int .u8))++[]).toArray 5 (0,0)):=by simpa[zeros]using hb4
  have hR:R (tSl (tI .u8)) (F1++[]) w4 zeros [.slice (some ⟨w3.heap.size,0,none⟩) 64 64]:=R.ofBlk (bs:=zeros) (c:=64) hzb (by simp;intro hm;have:=(hD1.own_lt _ hm).1;omega) (by intro x hx;simp[zeros]at hx;subst hx;exact ini_u8.2 (by omega)) (by simp[zeros]) (by simp[zeros,maxSl])
  refine⟨(dWrite_ok hD4 (by omega) (i:=i) (b:=zeros) (by obtain⟨s',g1,g2,g3,g4⟩:=hsc;omega) hR).mono ?_⟩
  rintro e w5 ⟨rfl,F2,hD5,hO5⟩
  refine⟨_,rfl,_,hO5.kp,hD4.out hvM,fun hne _=>?_,fun hz=>⟨ini_i64.2 (by omega),fun _=>⟨⟨i+1,_,F2,rfl,by omega,hD5,(hO1.kp0 hk24).trans hO5,(Dk.write_n _ _ _).trans hn1,?_,?_⟩,by dsimp only;omega⟩⟩⟩
  ·rw[if_pos hne]at he1
   rw[←he1]
   exact⟨rfl,F2,hD5,(hO1.kp0 hk24).trans hO5⟩
  ·have:=Dk.write_pend k1 i zeros;omega
  ·rw[if_neg hz]at he1;exact he1
 ·intro hge hkn2
  have hie:i=k.n:=by omega
  subst hie
  rw[Nat.sub_self,Dk.zeroL]at he1
  refine⟨(dSync_ok hD1 (by omega)).mono ?_⟩
  rintro e w6 ⟨rfl,F2,hD6,hO6⟩
  refine⟨_,rfl,_,hO6.kp,hD1.out hvM,fun _=>?_⟩
  rw[←he1]
  exact⟨rfl,F2,hD6,hO1.trans hO6⟩
def Dk.fmt(k:Dk)(b:List Int):Int×Dk :=
 if k.zero.1≠0 then k.zero
 else if (k.zero.2.add 1 0 1 b).1≠0 then k.zero.2.add 1 0 1 b
 else (k.zero.2.add 1 0 1 b).2.note 1
theorem fmtSteps{M F Fd:List Nat}{w:World}{s l d vd vs kf:Nat}{st:Sto}{k:Dk}(h:SysAt M w s l d 1 0 st k F Fd)(hv:StoV st)(hpl:k.pend.length≤900000)(hX:∀x∈[kf,vd,vs],x∈M)
 (hA:∀ps',ps'.Perm st.places→k.zero.1=0→AddOk k.zero.2 1 0 1 (encBase st.arrays st.batches ps'))
 (hT:∀ps',ps'.Perm st.places→k.zero.1=0→(k.zero.2.add 1 0 1 (encBase st.arrays st.batches ps')).1=0→(k.zero.2.add 1 0 1 (encBase st.arrays st.batches ps')).2.pend.length≤1000000)
 (hf:w.heap[kf]?=some (.cells #[.func (.func 79) #[] #[.pointer (some ⟨vd,0,none⟩)],.func (.func 81) #[] #[.pointer (some ⟨vs,0,none⟩)],.func (.func 60) #[.pointer (some ⟨l,0,none⟩)] #[]] 49 (0,0)))
 (hvd:w.heap[vd]?=some (.cells #[.pointer (some ⟨d,0,none⟩)] 40 (0,0)))(hvs:w.heap[vs]?=some (.cells #[.pointer (some ⟨s,0,none⟩)] 41 (0,0))):
 Calls Tryz.prog 55 #[.slice (some ⟨kf,0,none⟩) 3 3] w fun e w'=>∃ps',ps'.Perm st.places∧e=.returned (.int .i64 (k.fmt (encBase st.arrays st.batches ps')).1)∧∃Fd' nxt',SysAt M w' s l d 1 nxt' st (k.fmt (encBase st.arrays st.batches ps')).2 F Fd'∧Own (F++Fd) w (F++Fd') w'∧((k.fmt (encBase st.arrays st.batches ps')).1=0→nxt'=0+1+secsOf (encBase st.arrays st.batches ps')):=by
 have hMl:=h.mlt
 have hFn:∀x∈[kf,vd,vs],x∉F++Fd:=fun x hx hm=>(h.own_lt x hm).2 (hX x hx)
 have hlF:=h.sto.lF
 have hlD:l∈F++M:=List.mem_append_left _ hlF
 have hXD:∀x∈[kf,vd,vs],x∈F++M:=fun x hx=>List.mem_append_right _ (hX x hx)
 have hXl:∀x∈[kf,vd,vs],x≠l:=fun x hx e=>hFn x hx (List.mem_append_left _ (e▸hlF))
 have hl:=h.sto.log
 refine all_ok (b:=kf) (fs:=[(79,#[],#[.pointer (some ⟨vd,0,none⟩)]),(81,#[],#[.pointer (some ⟨vs,0,none⟩)]),(60,#[.pointer (some ⟨l,0,none⟩)],#[])]) (T:=49) hf (by simp) (c:=3) ?_
 refine⟨⟨_,_,Tryz.func79,rfl⟩,⟨(fZero_ok h.dk hvd (hXD vd (by simp)) (by omega)).mono ?_⟩⟩
 rintro e w1 ⟨rfl,Fd1,hD1,hO1⟩
 have own3:∀{wa wb:World} {Fa Fb:List Nat},Own Fa wa Fb wb→Own (l::Fa) wa (l::Fb) wb:=fun ho=>⟨ho.kp.mono (by intro x hx;simp[hx]),fun x hx=>(List.mem_cons.1 hx).elim (fun h=>.inl (by simp[h])) fun hx=>(ho.new x hx).imp (fun h=>by simp[h]) id⟩
 have hl1:=hl.keep hO1.kp (h.dk.out hlD).no
 obtain⟨Fd1',h1,ho1⟩:=h.logTo (nxt':=0) (num':=1) ⟨Fd1,hD1,own3 hO1,hl1⟩
 have kp1:=hO1.kp
 have no1:∀x∈[kf,vd,vs],x∉Fd:=fun x hx hm=>hFn x hx (List.mem_append_right _ hm)
 clear hD1 hO1
 refine⟨_,_,rfl,kp1,⟨no1 kf (by simp)⟩,fun hne=>?_,fun hz=>?_⟩
 ·have e1:k.fmt (encBase st.arrays st.batches st.places)=k.zero:=by unfold Dk.fmt;rw[if_pos hne]
  exact⟨st.places,List.Perm.refl _,by rw[e1],Fd1',0,by rw[e1];exact h1,ho1,fun hc=>absurd (by rw[←e1];exact hc) hne⟩
 have hvs1:w1.heap[vs]?=_:=(kp1.blk vs (block_lt hvs) (no1 vs (by simp))).trans hvs
 have hs1:LdA w1 ((⟨s,0,none⟩:Addr).add 0) [.pointer (some ⟨l,0,none⟩)]:=by
  obtain⟨m,ra,rn,rc,qa,qn,qc,hI,_,_⟩:=h1.sto
  rw[add_lit];exact ldA_blk hI.hs 0 [_] rfl
 refine⟨⟨_,_,Tryz.func81,rfl⟩,⟨fBase_vc hvs1 ⟨_,hs1,fun w2 hw2 hkn2=>⟨(sBase_ok (N:=l::Fd1') (fun x hx=>?_) ((h1.kp0 hw2).sto.weak (by simp)) (hv.stoOk (List.Perm.refl _))).mono ?_⟩⟩⟩⟩
 ·have:=hw2.size
  rcases List.mem_cons.1 hx with rfl|hx
  ·have:=(h1.sto.own_lt _ h1.sto.lF).1;omega
  ·have:=(h1.dk.own_lt x hx).1;omega
 rintro e w3 ⟨ps',hperm,hsorted,a,n,c,rfl,hV⟩
 have hk13:KpL [] w1 w3:=hw2.trans hV.kpn
 have ho:=hA ps' hperm hz
 have hlen:=hV.acc.len
 have hlb:(encBase st.arrays st.batches ps').length≤1000000:=by
  have h1':=ho.fit
  have h2:=k.zero.2.half_le
  obtain⟨ss,g1,g2,g3⟩:=h1.dk.ok.secs
  unfold secsOf at h1'
  omega
 have hRb:=hV.acc.done (by have:maxSl=140737488355328:=rfl;omega)
 have h3:=h1.kp0 hk13
 have hl3:=h3.sto.log
 refine⟨_,_,_,rfl,hV.kpn,fun hkn3=>⟨(lAdd_ok h3.dk hl3 hlD hRb (ini_u8.2 (by omega)) ho.n2 (by omega) ho.fit ho.pl ho.ps ho.ps2).mono ?_⟩⟩
 rintro e w4 ⟨rfl,hT2⟩
 have kp4:KpL (l::Fd1') w3 w4:=by obtain⟨_,_,hO,_⟩:=hT2;exact hO.kp
 obtain⟨Fd2,h4,ho4⟩:=h3.logTo hT2
 have ho04:=(ho1.kp0 hk13).trans ho4
 have no4:∀x∈[kf,vd,vs],NotIn x (l::Fd1'):=fun x hx=>⟨fun hm=>(List.mem_cons.1 hm).elim (hXl x hx) fun hm=>(h1.dk.own_lt x hm).2 (hXD x hx)⟩
 refine⟨_,rfl,_,kp4,no4 vs (by simp),fun hkn4=>⟨_,_,rfl,(hk13.mono (by simp)).trans kp4,no4 kf (by simp),fun hne=>?_,fun hz2=>?_⟩⟩
 ·have e1:k.fmt (encBase st.arrays st.batches ps')=k.zero.2.add 1 0 1 (encBase st.arrays st.batches ps'):=by unfold Dk.fmt;rw[if_neg (by simp[hz]),if_pos hne]
  exact⟨ps',hperm,by rw[e1],Fd2,_,by rw[e1];exact h4,ho04,fun hc=>absurd (by rw[←e1];exact hc) hne⟩
 have hl4:=h4.sto.log
 refine⟨⟨_,_,Tryz.func60,rfl⟩,⟨(lNote_ok h4.dk hl4 hlD (by rw[Dk.add_n];exact ho.n2) (by omega) (hT ps' hperm hz hz2)).mono ?_⟩⟩
 rintro e w5 ⟨rfl,Fd3,hD5,hO5⟩
 have kp5:=hO5.kp
 obtain⟨Fd3',h5,ho5⟩:=h4.logTo ⟨Fd3,hD5,own3 hO5,hl4.keep hO5.kp (h4.dk.out hlD).no⟩
 have e1:k.fmt (encBase st.arrays st.batches ps')=(k.zero.2.add 1 0 1 (encBase st.arrays st.batches ps')).2.note 1:=by unfold Dk.fmt;rw[if_neg (by simp[hz]),if_neg (by simp[hz2])]
 have fin:∀n:Int,n=(k.fmt (encBase st.arrays st.batches ps')).1→∃ps',ps'.Perm st.places∧Ending.returned (.int .i64 n)=.returned (.int .i64 (k.fmt (encBase st.arrays st.batches ps')).1)∧∃Fd' nxt',SysAt M w5 s l d 1 nxt' st (k.fmt (encBase st.arrays st.batches ps')).2 F Fd'∧Own (F++Fd) w (F++Fd') w5∧
  ((k.fmt (encBase st.arrays st.batches ps')).1=0→nxt'=0+1+secsOf (encBase st.arrays st.batches ps')):=fun n hn=>⟨ps',hperm,by rw[hn],Fd3',_,by rw[e1];exact h5,ho04.trans ho5,fun _=>by rw[if_pos hz2]⟩
 refine⟨_,_,rfl,kp5,(h4.dk.out (hXD kf (by simp))),fun hne=>fin _ (by rw[e1]),fun hz3=>?_⟩
 exact fin 0 (by rw[e1];exact hz3.symm)
end Go.Vc
namespace Go.Vc
open Go Go.Proofs
theorem cmpL_lt_trans{x y z:List Int}(h1:cmpL x y<0)(h2:cmpL y z<0):cmpL x z<0:=by
 have h3:=cmpL_trans (x:=x) (y:=y) (z:=z) (by omega) (by omega)
 rcases cmpL_rng x z with h|h|h
 ·omega
 ·have e:=cmpL_zero.1 h
  subst e
  have:=cmpL_swap x y
  omega
 ·omega
theorem cellsE_ok{ds:List Dim}{ats:List Attr}:∀{l:List Cell} {p:Option Cell},cellsE ds ats p l=0→(∀c∈l,cellE ds ats c=0)∧CSorted l∧∀q,p=some q→∀c∈l,cmpL q.at_ c.at_<0
 |[],_,_=>⟨by simp,List.Pairwise.nil,by simp⟩
 |c::r,none,h=>by
  rw[cellsE]at h
  split at h
  ·omega
  rename_i hc
  obtain⟨h1,h2,h3⟩:=cellsE_ok h
  exact⟨fun d hd=>(List.mem_cons.1 hd).elim (fun e=>by rw[e];omega) (h1 d),List.Pairwise.cons (h3 c rfl) h2,fun _ h=>by cases h⟩
 |c::r,some p,h=>by
  rw[cellsE]at h
  split at h
  ·omega
  rename_i hc
  split at h
  ·cases h
  rename_i h0
  split at h
  ·cases h
  rename_i h1'
  obtain⟨h1,h2,h3⟩:=cellsE_ok h
  have hlt:cmpL p.at_ c.at_<0:=by rcases cmpL_rng p.at_ c.at_ with h|h|h<;>omega
  refine⟨fun d hd=>(List.mem_cons.1 hd).elim (fun e=>by rw[e];omega) (h1 d),List.Pairwise.cons (h3 c rfl) h2,fun q hq d hd=>?_⟩
  simp only[Option.some.injEq]at hq
  subst hq
  rcases List.mem_cons.1 hd with rfl|hd
  ·exact hlt
  ·exact cmpL_lt_trans hlt (h3 c rfl d hd)
theorem arrE_ok{x:Arr}(h:arrE x=0):schemaE x.dims x.attrs=0∧x.cells.length≤4096∧(∀c∈x.cells,cellE x.dims x.attrs c=0)∧CSorted x.cells:=by
 unfold arrE at h
 split at h
 ·omega
 split at h
 ·cases h
 obtain⟨h1,h2,_⟩:=cellsE_ok h
 exact⟨by omega,by omega,h1,h2⟩
theorem dbL_ok:∀{db:List Nm} {met:List ByteArray},dbL met db=0→(∀x∈db,nameOk x.name=true∧arrE x.arr=0∧x.name∉met)∧(db.map (·.name)).Nodup
 |[],_,_=>⟨by simp,by simp⟩
 |x::r,met,h=>by
  rw[dbL]at h
  split at h
  ·cases h
  rename_i h1
  split at h
  ·cases h
  rename_i h2
  obtain⟨h3,h4⟩:=dbL_ok h
  simp only[not_or]at h1
  refine⟨fun y hy=>?_,?_⟩
  ·rcases List.mem_cons.1 hy with rfl|hy
   ·exact⟨by simpa using h1.1,by omega,h1.2⟩
   ·have:=h3 y hy
    exact⟨this.1,this.2.1,fun hm=>this.2.2 (by simp[hm])⟩
  ·rw[List.map_cons,List.nodup_cons]
   refine⟨fun hm=>?_,h4⟩
   obtain⟨y,hy,he⟩:=List.mem_map.1 hm
   exact(h3 y hy).2.2 (by simp[he])
theorem dbE_ok{db:List Nm}(h:dbE db=0):db.length≤16∧(∀x∈db,nameOk x.name=true∧arrE x.arr=0)∧(db.map (·.name)).Nodup:=by
 unfold dbE at h
 split at h
 ·cases h
 obtain⟨h1,h2⟩:=dbL_ok h
 exact⟨by omega,fun x hx=>⟨(h1 x hx).1,(h1 x hx).2.1⟩,h2⟩
theorem cellE_ok{ds:List Dim}{ats:List Attr}{c:Cell}(h:cellE ds ats c=0):c.at_.length=ds.length∧c.vals.length=ats.length∧ofB ds c.at_=true∧fitsL ats c.vals=true:=by
 unfold cellE at h
 split at h
 ·cases h
 rename_i h1
 split at h
 ·cases h
 rename_i h2
 split at h
 ·cases h
 rename_i h3
 simp only[not_or,Decidable.not_not]at h1
 exact⟨h1.1,h1.2,by simpa using h2,by simpa using h3⟩
def fmtArr(x:Nm):Nm:=⟨x.name,⟨x.arr.dims,x.arr.attrs,[]⟩⟩
def fmtCs(i:Nat)(l:List Cell):List (Pl×Sta):=l.map fun c=>(plOf i c.at_,⟨0,c.vals⟩)
def fmtPl:Nat→List Nm→List (Pl×Sta)
 |_,[]=>[]
 |i,x::r=>fmtCs i x.arr.cells++fmtPl (i+1) r
theorem fmtPl_app:∀(i:Nat) (l m:List Nm),fmtPl i (l++m)=fmtPl i l++fmtPl (i+l.length) m
 |i,[],m=>by simp[fmtPl]
 |i,x::r,m=>by
  simp only[List.cons_append,fmtPl,fmtPl_app (i+1) r m,List.append_assoc,List.length_cons]
  congr 3
  omega
theorem fmtPl_a:∀{i:Nat} {l:List Nm} {p:Pl×Sta},p∈fmtPl i l→∃j x c,l[j]?=some x∧c∈x.arr.cells∧p=(plOf (i+j:Nat) c.at_,⟨0,c.vals⟩)
 |_,[],_,h=>by simp[fmtPl]at h
 |i,x::r,p,h=>by
  rw[fmtPl,List.mem_append]at h
  rcases h with h|h
  ·obtain⟨c,hc,rfl⟩:=List.mem_map.1 h
   exact⟨0,x,c,rfl,hc,rfl⟩
  ·obtain⟨j,y,c,h1,h2,h3⟩:=fmtPl_a h
   exact⟨j+1,y,c,by simpa using h1,h2,by rw[h3];congr 3;omega⟩
theorem plOf_inj{a:Int}{x y:List Int}(h:plOf a x=plOf a y)(hl:x.length=y.length)(hn:x.length≤4):x=y:=by
 unfold plOf at h
 simp only[Pl.mk.injEq,true_and]at h
 obtain⟨h0,h1,h2,h3⟩:=h
 apply List.ext_getElem hl
 intro i hi1 hi2
 have g:∀(z:List Int) (hz:i<z.length),z.getD i 0=z[i]:=fun z hz=>by simp[List.getD_eq_getElem?_getD,hz]
 rw[←g x hi1,←g y hi2]
 match i,(by omega:i<4) with
 |0,_=>exact h0
 |1,_=>exact h1
 |2,_=>exact h2
 |3,_=>exact h3
theorem fmtPl_nd:∀{i:Nat} {l:List Nm},(∀x∈l,arrE x.arr=0)→((fmtPl i l).map (·.1)).Nodup
 |_,[],_=>by simp[fmtPl]
 |i,x::r,h=>by
  rw[fmtPl,List.map_append,List.nodup_append]
  refine⟨?_,fmtPl_nd fun y hy=>h y (by simp[hy]),?_⟩
  ·obtain⟨hs,_,hc,hso⟩:=arrE_ok (h x (by simp))
   have hd:=dims_14 (sch_dims hs).1
   have e:(fmtCs i x.arr.cells).map (·.1)=x.arr.cells.map fun c=>plOf i c.at_:=by simp[fmtCs]
   rw[e,List.nodup_iff_pairwise_ne,List.pairwise_map]
   refine List.Pairwise.imp_of_mem ?_ hso
   intro c c' hcm hcm' hlt he
   have l1:=(cellE_ok (hc c hcm)).1
   have l2:=(cellE_ok (hc c' hcm')).1
   have:=plOf_inj he (by omega) (by omega)
   rw[this]at hlt
   have:=cmpL_zero.2 (rfl:c'.at_=c'.at_)
   omega
  ·intro a ha b hb hab
   subst hab
   obtain⟨p,hp,rfl⟩:=List.mem_map.1 ha
   obtain⟨q,hq,he⟩:=List.mem_map.1 hb
   obtain⟨c,_,rfl⟩:=List.mem_map.1 hp
   obtain⟨j,y,c',_,_,rfl⟩:=fmtPl_a hq
   have:=congrArg Pl.a he
   simp only[plOf]at this
   omega
def fmtSto(db:List Nm):Sto:=baseSto (db.map fmtArr) [] (fmtPl 0 db)
theorem fmtSto_ok{db:List Nm}(h:dbE db=0)(hne:db.length≠0)(hp:(fmtPl 0 db).length≤4000):StoV (fmtSto db):=by
 obtain⟨h1,h2,h3⟩:=dbE_ok h
 refine⟨?_,?_,?_,?_,?_,?_,?_,?_,?_,hp,?_,fmtPl_nd fun x hx=>(h2 x hx).2,?_,?_⟩
 ·show 1≤(db.map fmtArr).length;simp;omega
 ·show(db.map fmtArr).length≤16;simp;omega
 ·intro x hx
  obtain⟨y,hy,rfl⟩:=List.mem_map.1 (show x∈db.map fmtArr from hx)
  exact(h2 y hy).1
 ·show((db.map fmtArr).map (·.name)).Nodup
  rw[List.map_map]
  exact h3
 ·intro x hx
  obtain⟨y,hy,rfl⟩:=List.mem_map.1 (show x∈db.map fmtArr from hx)
  exact(arrE_ok (h2 y hy).2).1
 ·intro x hx
  obtain⟨y,hy,rfl⟩:=List.mem_map.1 (show x∈db.map fmtArr from hx)
  rfl
 ·show(0:Nat)≤_;omega
 ·intro x hx;exact absurd hx (by show x∉([]:List Seen);simp)
 ·show(([]:List Seen).map (·.token)).Nodup;simp
 ·intro p hpm
  obtain⟨j,x,c,hx,hc,rfl⟩:=fmtPl_a (show p∈fmtPl 0 db from hpm)
  have hxo:=arrE_ok (h2 x (List.mem_of_getElem? hx)).2
  obtain⟨c1,c2,c3,c4⟩:=cellE_ok (hxo.2.2.1 c hc)
  refine⟨by show(0:Int)≤((0+j:Nat):Int);omega,⟨fmtArr x,?_,⟨c.at_,c1,c3,rfl⟩,c4,.inr c2⟩,by show(0:Int)≤0;omega,by show(0:Int)≤_;omega⟩
  show(db.map fmtArr)[((0+j:Nat):Int).toNat]?=_
  rw[show((0+j:Nat):Int).toNat=j from by omega,List.getElem?_map,hx]
  rfl
 ·show(0:Int)≤1+8*((db.map fmtArr).length:Int)+3*((fmtPl 0 db).length:Int)+(([]:List Seen).length:Int);omega
 ·show 1+8*((db.map fmtArr).length:Int)+3*((fmtPl 0 db).length:Int)+(([]:List Seen).length:Int)≤100000
  simp only[List.length_map,List.length_nil]
  omega
end Go.Vc
namespace Go.Vc
open Go Go.Proofs
set_option maxHeartbeats 8000000 in
theorem sFormat_ok{M Mdb Fd:List Nat}{w:World}{d:Nat}{k:Dk}{db:List Nm}{dba:Option Addr}{dbn dbc:Nat}(h:DkAt M w d k Fd)(hd:R (tSl tNm) Mdb w db [.slice dba dbn dbc])(hp:(fmtPl 0 db).length≤4000)(hpl:k.pend.length≤900000)(h2:2≤k.n)
 (hA:dbE db=0→db.length≠0→k.down=false→(fmtSto db).use≤k.half→∀ps',ps'.Perm (fmtPl 0 db)→(k.zero.1=0→AddOk k.zero.2 1 0 1 (encBase (db.map fmtArr) [] ps'))∧(k.zero.1=0→(k.zero.2.add 1 0 1 (encBase (db.map fmtArr) [] ps')).1=0→(k.zero.2.add 1 0 1 (encBase (db.map fmtArr) [] ps')).2.pend.length≤1000000)∧InI .i64 ((k.fmt (encBase (db.map fmtArr) [] ps')).2.st+1)):
 Calls Tryz.prog 20 #[.pointer (some ⟨d,0,none⟩),.slice dba dbn dbc] w fun e w' =>
  if dbE db≠0∨db.length=0 then e=.returned (.tuple #[.pointer none,.int .i64 2])∧KpL [] w w'
  else if k.down=true then e=.returned (.tuple #[.pointer none,.int .i64 17])∧KpL [] w w'
  else if (k.half:Int)<(fmtSto db).use then e=.returned (.tuple #[.pointer none,.int .i64 18])∧KpL [] w w'
  else ∃ps',ps'.Perm (fmtPl 0 db)∧if (k.fmt (encBase (db.map fmtArr) [] ps')).1≠0 then e=.returned (.tuple #[.pointer none,.int .i64 (k.fmt (encBase (db.map fmtArr) [] ps')).1])∧∃Fd',DkAt M w' d (k.fmt (encBase (db.map fmtArr) [] ps')).2 Fd'∧Own Fd w Fd' w'
   else ∃s l F Fd',e=.returned (.tuple #[.pointer (some ⟨s,0,none⟩),.int .i64 0])∧SysAt M w' s l d 1 (0+1+secsOf (encBase (db.map fmtArr) [] ps')) { fmtSto db with id:=(k.fmt (encBase (db.map fmtArr) [] ps')).2.st+1 } { (k.fmt (encBase (db.map fmtArr) [] ps')).2 with st:=(k.fmt (encBase (db.map fmtArr) [] ps')).2.st+1 } F Fd'∧Own Fd w (F++Fd') w':=by
 have hmx:maxSl=140737488355328:=rfl
 obtain⟨rfl,hdn1,hdn2⟩:=hd.sl_len
 have hFM:∀b∈Fd++M,b<w.heap.size:=by
  intro b hb
  rcases List.mem_append.1 hb with hb|hb
  ·exact(h.own_lt b hb).1
  ·exact h.mlt b hb
 obtain⟨ss,hs1,hs2,hs3,hs4⟩:=h.ok.secs
 refine sFormat_vc fun k1 hk1 w1 hw1 hkn1=>⟨(dIs_ok (h.kp0 hw1)).mono ?_⟩
 rintro e w2 ⟨rfl,hw2⟩
 have hk02:=hw1.trans hw2
 refine⟨_,rfl,hw2,fun hc=>by simp at hc,fun _ hkn2=>⟨(database_ok (hd.kp0 hk02)).mono ?_⟩⟩
 rintro e w3 ⟨rfl,hw3⟩
 have hk03:=hk02.trans hw3
 refine⟨_,rfl,hw3,fun hz=>⟨fun hn _=>?_,fun hn hkn3=>⟨k.down,(h.kp0 hk03).cell.1,fun hdn _=>?_,fun hdn hkn3'=>?_⟩⟩,fun hne _=>?_⟩
 ·rw[if_pos (.inr (by omega))];exact⟨rfl,hk03⟩
 ·rw[if_neg (by simp only[not_or];exact⟨hz,by omega⟩),if_pos hdn];exact⟨rfl,hk03⟩
 rotate_left
 ·rw[if_pos (.inl hne)];exact⟨rfl,hk03⟩
 have hz':=Classical.not_not.1 hz
 have hn':db.length≠0:=by omega
 have hv:=fmtSto_ok hz' hn' hp
 obtain⟨hdl,hdx,hdnd⟩:=dbE_ok hz'
 have hA:=hA hz' hn' hdn
 have n1:¬(dbE db≠0∨db.length=0):=by simp only[not_or];exact⟨hz,by omega⟩
 have n2':¬(k.down=true):=by simp[hdn]
 have hk1l:=block_lt hkn3'
 have s03:=hk03.size
 refine ev_box fun w4 hb4 hw4=>⟨_,rfl,[],hw4,⟨by simp⟩,fun hkn4=>?_⟩
 generalize hl_:w3.heap.size=l at *
 have hl4:LogAt w4 l d 1 (0:Nat):=hb4
 have s34:=hw4.size
 have hll:=block_lt hb4
 have hMm:∀b∈k1::l::(Fd++M),b<w4.heap.size:=by
  intro b hb
  simp only[List.mem_cons]at hb
  rcases hb with rfl|rfl|hb
  ·omega
  ·omega
  ·have:=hFM b hb;omega
 refine ev_makeMap (enc:=Pl.enc) (t:=tSta) hMm fun w5 hm5 hw5=>⟨_,rfl,[],hw5,⟨by simp⟩,fun hkn5=>?_⟩
 generalize hm_:w4.heap.size=m at *
 refine ev_box fun w6 hb6 hw6=>⟨_,rfl,[],hw6,⟨by simp⟩,fun k2 hk2=>?_⟩
 generalize hs_:w5.heap.size=s at *
 have s45:=hw5.size
 have s56:=hw6.size
 have hml:=hm5.lt
 have hsl:=block_lt hb6
 have hs6:SC w6 s l 0 none 0 0 (some m) none 0 0 0:=hb6
 have hl6:=(hl4.keep hw5 (by simp)).keep hw6 (by simp)
 have hk06:=((hk03.trans hw4).trans hw5).trans hw6
 have k12:k1≠k2:=by omega
 generalize hN:k1::k2::(Fd++M)=N at *
 have hNl:∀b∈N,b=k2∨b<w4.heap.size:=by
  intro b hb
  rw[←hN]at hb
  simp only[List.mem_cons]at hb
  rcases hb with rfl|rfl|hb
  ·exact .inr (by omega)
  ·exact .inl rfl
  ·exact .inr (by have:=hFM b hb;omega)
 have hsN:s∉N:=fun hm=>by rcases hNl s hm with h|h<;>omega
 have hlN:l∉N:=by
  rw[←hN]
  simp only[List.mem_cons,not_or]
  exact⟨by omega,by omega,fun hm=>by have:=hFM l hm;omega⟩
 have hmN:m∉N:=fun hm=>by rcases hNl m hm with h|h<;>omega
 refine⟨fun vs w'=>∃(i:Nat) (a:Option Addr) (n c:Nat),vs=[.int .i64 (i:Int)]∧i≤db.length∧KpL [] w w'∧SC w' s l 0 a n c (some m) none 0 0 0∧LogAt w' l d 1 (0:Nat)∧Acc tNm (s::l::m::N) w' ((db.take i).map fmtArr) a n c∧(∀b∈blkL a,w.heap.size≤b)∧MapAt Pl.enc tSta (s::l::(blkL a++N)) w' m (fmtPl 0 (db.take i)),
  fun vs _=>match vs with|[.int _ i]=>db.length - i.toNat|_=>0,fun w7 hw7 hkn7=>⟨0,none,0,0,rfl,by omega,hk06.trans hw7,hs6.keep hw7 (by simp),hl6.keep hw7 (by simp),Acc.nil' _ fun b hb=>?_,by simp[blkL],?_⟩,?_⟩
 ·have:=hw7.size
  have hk2l:=block_lt hkn7.1
  simp only[List.mem_cons]at hb
  rcases hb with rfl|rfl|rfl|hb
  ·omega
  ·omega
  ·omega
  ·rcases hNl b hb with rfl|hb<;>omega
 ·refine hm5.step (hw6.trans hw7) (by simp) fun b hb=>?_
  rw[←hN]at hb
  simp only[blkL,List.nil_append,List.mem_cons]at hb ⊢
  rcases hb with rfl|rfl|rfl|rfl|hb
  ·exact .inr (by omega)
  ·exact .inl (by simp)
  ·exact .inl (by simp)
  ·exact .inr (by omega)
  ·exact .inl (by simp[hb])
 rintro n2 w8 ⟨i,a,n,c,hvs,hi,hk8,hs8,hl8,hA8,hnew8,hm8⟩
 simp only[List.cons.injEq,Value.int.injEq,true_and,and_true]at hvs
 subst hvs
 have s08:=hk8.size
 constructor
 ·intro hlt
  have gi:i<db.length:=by omega
  have hlA:=hA8.len
  rw[List.length_map,List.length_take,Nat.min_eq_left hi]at hlA
  obtain⟨ad,cs,rfl,hv1,hld1,_,_⟩:=hd.sl_get gi
  obtain⟨b1,p1,q1,b2,p2,q2,b3,p3,q3,rfl,hsz,hx1,hx2,hx3⟩:=hv1.nm
  obtain⟨hp3,_,hq3⟩:=hx3.sl_len
  subst hp3
  have hxm:=List.getElem_mem gi
  have hao:=arrE_ok (hdx _ hxm).2
  have htk:db.take (i+1)=db.take i++[db[i]]:=(List.take_append_getElem gi).symm
  have hfp:fmtPl 0 (db.take (i+1))=fmtPl 0 (db.take i)++fmtCs i db[i].arr.cells:=by
   rw[htk,fmtPl_app];simp[fmtPl,Nat.min_eq_left hi]
  have hnd:=fmtPl_nd (i:=0) (l:=db.take (i+1)) fun x hx=>(hdx x (List.mem_of_mem_take hx)).2
  rw[hfp]at hnd
  generalize db[i]=x at *
  have hkl2:k2<w8.heap.size∨True:=.inr trivial
  refine⟨ad,rfl,by omega,hlt,fun hkn8=>⟨_,_,_,_,_,_,_,_,_,_,hld1.kp hk8,fun _=>ev_alloc (z:=[.string ByteArray.empty,.slice none 0 0,.slice none 0 0,.slice none 0 0]) ⟨_,fun w=>zero_of (z:=.agg #[.string ByteArray.empty,.slice none 0 0,.slice none 0 0,.slice none 0 0]) (by kernel_rfl) w,rfl⟩ fun w9 hb9 hw9=>⟨_,rfl,[],hw9,⟨⟨by simp⟩,⟨by simp⟩⟩,fun hkn9=>⟨⟨[_,_,_,_],ldA_blk hb9 0 _ rfl,rfl⟩,notFrozen hb9,?_,?_⟩⟩⟩⟩
  ·have:=block_lt hkn8.1;have:=block_lt hkn8.2;exact⟨⟨by simp;omega⟩,⟨by simp;omega⟩⟩
  rintro w10 rfl hkn10
  have hk2l8:=block_lt hkn8.1
  have hk1l8:=block_lt hkn8.2
  have hb10:=stA_ld (off:=0) (l:=[.string x.name,.slice b1 p1 q1,.slice b2 p2 q2,.slice b3 x.arr.cells.length q3]) hb9 (by simp)
  have hkS9:=stA_kp w9 ⟨w8.heap.size,0,none⟩ [Value.string x.name,.slice b1 p1 q1,.slice b2 p2 q2,.slice b3 x.arr.cells.length q3]
  generalize hw10:stA w9 ⟨w8.heap.size,0,none⟩ [Value.string x.name,.slice b1 p1 q1,.slice b2 p2 q2,.slice b3 x.arr.cells.length q3] 0=w10 at *
  generalize hv8:w8.heap.size=v8 at *
  have hk810:KpL [] w8 w10:=hw9.more hkS9 (by simp;omega)
  have s10:=hk810.size
  have hMl10:∀b∈blkL a++(s::l::m::N),b<w10.heap.size:=by
   intro b hb
   rcases List.mem_append.1 hb with hb|hb
   ·have:=(hA8.blk_lt b hb).1;omega
   ·have:=hA8.mlt b hb;omega
  refine⟨_,_,_,by rw[addr0,add_lit];exact ldA_blk hb10 1 [_] rfl,fun _=>⟨_,_,_,by rw[add_lit,add_lit];exact ldA_blk hb10 2 [_] rfl,fun _=>⟨(make_ok (M:=blkL a++(s::l::m::N)) (cells:=[]) hMl10 (hx1.kp0 (hk8.trans hk810)) (hx2.kp0 (hk8.trans hk810)) (R.sl_nil _ [] _ _ _) hao.1 (by simp) (by simp) (by simp)).mono ?_⟩⟩⟩
  rintro e w11 ⟨c1,p1',q1',c2,p2',q2',c3,p3',q3',cells',rfl,hw11,hpm,_,g1,g2,g3⟩
  have hc0:cells'=[]:=List.perm_nil.1 hpm
  subst hc0
  have s11:=hw11.size
  refine⟨_,_,_,_,_,_,_,_,_,_,rfl,hw11,fun hkn11=>ev_alloc (z:=[.slice none 0 0,.slice none 0 0,.slice none 0 0]) ⟨_,fun w=>zero_of (z:=.agg #[.slice none 0 0,.slice none 0 0,.slice none 0 0]) (by kernel_rfl) w,rfl⟩ fun w12 hb12 hw12=>⟨_,rfl,[],hw12,⟨⟨by simp⟩,⟨by simp⟩⟩,fun hkn12=>⟨⟨[_,_,_],ldA_blk hb12 0 _ rfl,rfl⟩,notFrozen hb12,⟨⟨by simp;omega⟩,⟨by simp;omega⟩⟩,?_⟩⟩⟩
  rintro w13 rfl
  have hb13:=stA_ld (off:=0) (l:=[.slice c1 p1' q1',.slice c2 p2' q2',.slice c3 p3' q3']) hb12 (by simp)
  have hkS12:=stA_kp w12 ⟨w11.heap.size,0,none⟩ [Value.slice c1 p1' q1',.slice c2 p2' q2',.slice c3 p3' q3']
  generalize hw13:stA w12 ⟨w11.heap.size,0,none⟩ [Value.slice c1 p1' q1',.slice c2 p2' q2',.slice c3 p3' q3'] 0=w13 at *
  generalize hv11:w11.heap.size=v11 at *
  have hk1113:KpL [v11] w11 w13:=(hw12.mono (by simp)).trans hkS12
  have hk1013:KpL [] w10 w13:=hw11.more hk1113 (by simp;omega)
  have hk813:=hk810.trans hk1013
  have s13:=hk1113.size
  have hs13:=hs8.keep hk813 (by simp)
  have hb13':w13.heap[v8]?=_:=(hk1013.blk v8 (block_lt hb10) (by simp)).trans hb10
  refine⟨fun hc=>absurd rfl hc,fun _=>⟨_,_,_,hs13.ld2,_,by rw[addr0];exact ldA_blk hb13' 0 [_] rfl,_,_,_,_,_,_,_,_,_,ldA_blk hb13 0 _ rfl,fun k27 hk27 w14 hw14 hkn14=>?_⟩⟩
  have hk814:=hk813.trans hw14
  have s14:=hw14.size
  have up:∀{α:Type} {t:Ty α} {x:α} {cs:List Value},R t (blkL a++(s::l::m::N)) w11 x cs→R t (blkL a++(s::l::m::N)) w14 x cs:=fun hr=>hr.oldN (hk1113.trans (hw14.mono (by simp))) (by simp;omega) fun b hb=>.inl hb
  have hsA:s∉blkL a:=fun hm=>(hA8.blk_lt s hm).2 (by simp)
  have hmA:m∉blkL a:=fun hm=>(hA8.blk_lt m hm).2 (by simp)
  have hlA':l∉blkL a:=fun hm=>(hA8.blk_lt l hm).2 (by simp)
  refine ev_append1 apNm (hA8.kp0 hk814) hkn14.1 (R.mkNm (c:=fmtArr x) hsz (up g1) (up g2) (up g3)) (by omega) fun a13 c13 w15 hC=>⟨_,_,_,rfl,_,hC.kp,⟨⟨fun hm=>by have:=(hA8.blk_lt _ hm).1;omega⟩,⟨fun hm=>by have:=(hA8.blk_lt _ hm).2;exact this (by rw[←hN];simp)⟩,⟨fun hm=>by have:=(hA8.blk_lt _ hm).2;exact this (by rw[←hN];simp)⟩⟩,fun hkn15=>⟨⟨ldA_blk hkn15.2.1 0 [_] rfl,trivial⟩,fun _=>?_⟩⟩
  have hs15:=(hs8.keep hk814 (by simp)).keep hC.kp hsA
  have hkS:=hs15.kpS 2 (.slice a13 (n+1) c13)
  have hs16:=hs15.set2 a13 (n+1) c13
  refine⟨⟨_,hs15.ld2,rfl⟩,hs15.nf 2,⟨⟨by simp;have:=block_lt hs8;omega⟩,⟨by simp;rintro rfl;exact hsN (by rw[←hN];simp)⟩,⟨by simp;rintro rfl;exact hsN (by rw[←hN];simp)⟩⟩,?_⟩
  rintro w16 rfl hkn16
  generalize hw16:stA w15 ((⟨s,0,none⟩:Addr).add 2) [.slice a13 (n+1) c13] 0=w16 at *
  have hk16:KpL [] w w16:=((hk8.trans hk814).more hC.kp fun b hb=>.inr (hnew8 b hb)).more hkS (by simp;have:=hk06.size;omega)
  have hv8s:v8∉blkL a:=fun hm=>by have:=(hA8.blk_lt _ hm).1;omega
  have hb16:w16.heap[v8]?=_:=(hkS.blk v8 (by have:=block_lt hb13';have:=hC.kp.size;omega) (by simp;have:=block_lt hs8;omega)).trans ((hC.kp.blk v8 (by have:=block_lt hb13';omega) hv8s).trans ((hw14.blk v8 (block_lt hb13') (by simp)).trans hb13'))
  have hl16:LogAt w16 l d 1 (0:Nat):=((hl8.keep hk814 (by simp)).keep hC.kp hlA').keep hkS (by simp;omega)
  have hA16:Acc tNm (s::l::m::N) w16 ((db.take (i+1)).map fmtArr) a13 (n+1) c13:=by
   rw[htk,List.map_append]
   exact hC.acc.kp hkS (by simp)
  have hnew16:∀b∈blkL a13,w.heap.size≤b:=fun b hb=>(hC.own b hb).elim (hnew8 b) fun h=>by have:=hk814.size;omega
  have hm16:MapAt Pl.enc tSta (s::l::(blkL a13++N)) w16 m (fmtPl 0 (db.take i)):=by
   refine((hm8.step hk814 (by simp) fun b hb=>.inl hb).step hC.kp (fun b hb=>by simp[hb]) (M':=s::l::(blkL a13++N)) fun b hb=>?_).step hkS (by simp) fun b hb=>.inl hb
   simp only[List.mem_cons,List.mem_append]at hb ⊢
   rcases hb with rfl|rfl|hb|hb
   ·exact .inl (.inl rfl)
   ·exact .inl (.inr (.inl rfl))
   ·exact(hC.own b hb).imp (fun h=>.inr (.inr (.inl h))) id
   ·exact .inl (.inr (.inr (.inr hb)))
  have dec:db.length - ((i:Int)+1).toNat<db.length - (i:Int).toNat:=by omega
  have s16:=hk16.size
  have hk27l:=block_lt hkn16.1
  have hk2l16:=block_lt hkn16.2.1
  have hk1l16:=block_lt hkn16.2.2
  refine⟨_,_,_,by rw[add_lit,add_lit];exact ldA_blk hb16 3 [_] rfl,fun vs w'=>∃(j:Nat),vs=[.int .i64 (j:Int)]∧j≤x.arr.cells.length∧KpL [] w w'∧SC w' s l 0 a13 (n+1) c13 (some m) none 0 0 0∧LogAt w' l d 1 (0:Nat)∧Acc tNm (s::l::m::N) w' ((db.take (i+1)).map fmtArr) a13 (n+1) c13∧MapAt Pl.enc tSta (s::l::(blkL a13++N)) w' m (fmtPl 0 (db.take i)++fmtCs i (x.arr.cells.take j)),
   fun vs _=>match vs with|[.int _ i]=>x.arr.cells.length - i.toNat|_=>0,fun _=>⟨0,rfl,by omega,hk16,hs16,hl16,hA16,by simpa[fmtCs]using hm16⟩,?_⟩
  rintro n4 w17 ⟨j,hvs,hj,hk17,hs17,hl17,hA17,hm17⟩
  simp only[List.cons.injEq,Value.int.injEq,true_and,and_true]at hvs
  subst hvs
  have s17:=hk17.size
  constructor
  ·intro hjl
   have gj:j<x.arr.cells.length:=by omega
   have hce:=hao.2.2.1 _ (List.getElem_mem gj)
   obtain⟨ad6,cs6,rfl,hv6,hld6,_,_⟩:=(hx3.kp0 hk17).sl_get gj
   obtain⟨a15,k32,k33,a16,k34,k35,rfl,y1,y2⟩:=hv6.cell
   have htj:x.arr.cells.take (j+1)=x.arr.cells.take j++[x.arr.cells[j]]:=(List.take_append_getElem gj).symm
   have hkey:plOf i x.arr.cells[j].at_∉(fmtPl 0 (db.take i)++fmtCs i (x.arr.cells.take j)).map (·.1):=by
    intro hm
    have hnd':=hnd
    have e5:fmtCs i x.arr.cells=fmtCs i (x.arr.cells.take j)++fmtCs i (x.arr.cells[j]::x.arr.cells.drop (j+1)):=by
     unfold fmtCs
     rw[←List.map_append,←List.drop_eq_getElem_cons gj,List.take_append_drop]
    rw[e5,←List.append_assoc,List.map_append,List.nodup_append]at hnd'
    exact hnd'.2.2 _ hm _ (List.mem_map.2 ⟨_,List.mem_map.2 ⟨x.arr.cells[j],List.mem_cons_self,rfl⟩,rfl⟩) rfl
   generalize x.arr.cells[j]=cc at *
   obtain⟨e1,e2,e3,e4⟩:=cellE_ok hce
   have h14:=dims_14 (sch_dims hao.1).1
   have hsd:=sch_dims hao.1
   obtain⟨y2l,_,_⟩:=y2.sl_len
   refine⟨ad6,rfl,by omega,hjl,fun hkn17=>⟨_,_,_,_,_,_,hld6,fun k36 hk36=>⟨_,hs17.ld3,fun w18 hw18 hkn18=>⟨(key_ok (x:=(i:Int)) (y1.kp0 hw18) (by omega)).mono ?_⟩⟩⟩⟩
   rintro e w19 ⟨rfl,hw19⟩
   generalize hpp:plOf (i:Int) cc.at_=p at *
   refine⟨p.a,p.p0,p.p1,p.p2,p.p3,rfl,hw19,fun hkn19=>?_⟩
   have hk1719:=hw18.trans hw19
   have s1719:=hk1719.size
   have hm19:=hm17.step hk1719 (by simp) (M':=s::l::(blkL a13++N)) fun b hb=>.inl hb
   have hMv:∀b∈m::s::l::(blkL a13++N),b<w19.heap.size:=by
    intro b hb
    simp only[List.mem_cons,List.mem_append]at hb
    rcases hb with rfl|rfl|rfl|hb|hb
    ·exact hm19.lt
    ·have:=hA17.mlt b (by simp);omega
    ·have:=hA17.mlt b (by simp);omega
    ·have:=(hA17.blk_lt b hb).1;omega
    ·have:=hA17.mlt b (by simp[hb]);omega
   refine⟨(clone77_ok (M:=m::s::l::(blkL a13++N)) hMv (by omega) (y2.kp0 hk1719)).mono ?_⟩
   rintro e w20 ⟨a17,k37,k38,rfl,hV⟩
   have hRv:=hV.acc.done (by have:=hV.acc.len;omega)
   refine⟨_,_,_,rfl,hV.kpn,fun hkn20=>?_⟩
   have hk1720:=hk1719.trans hV.kpn
   have hm20:=hm17.step hk1720 (by simp) (M':=s::l::(blkL a13++N)) fun b hb=>.inl hb
   have hsta:R tSta (m::s::l::(blkL a13++N)) w20 ⟨0,cc.vals⟩ [.int .i64 0,.slice a17 k37 k38]:=R.mkSta (ini_i64.2 (by simp)) hRv
   have hml17:=hm17.lt
   have s4w:w4.heap.size≤w.heap.size∨True:=.inr trivial
   have hm13:m∉blkL a13:=fun hm=>(hA17.blk_lt m hm).2 (by simp)
   refine ev_mapUpdate (enc:=Pl.enc) (v:=⟨0,cc.vals⟩) keyPl u114 hm20 p hsta fun w21 hm21 hw21=>⟨rfl,[m],hw21,⟨⟨by simp;omega⟩,⟨by simp;rintro rfl;omega⟩,⟨by simp;rintro rfl;exact hmN (by rw[←hN];simp)⟩,⟨by simp;rintro rfl;exact hmN (by rw[←hN];simp)⟩⟩,ini_i64.2 (by omega),fun _=>⟨⟨j+1,rfl,by omega,?_,?_,?_,?_,?_⟩,by dsimp only;omega⟩⟩
   ·exact(hk17.trans hk1720).more hw21 (by simp;have:=hk03.size;have:=hw4.size;omega)
   ·exact(hs17.keep hk1720 (by simp)).keep hw21 (by simp;omega)
   ·exact(hl17.keep hk1720 (by simp)).keep hw21 (by simp;omega)
   ·exact(hA17.kp0 hk1720).kp hw21 (by simp)
   ·rw[putM_new hkey]at hm21
    rw[htj]
    have:fmtPl 0 (db.take i)++fmtCs i (x.arr.cells.take j++[cc])=fmtPl 0 (db.take i)++fmtCs i (x.arr.cells.take j)++[(p,⟨0,cc.vals⟩)]:=by
     unfold fmtCs
     rw[List.map_append,List.append_assoc]
     simp[hpp]
    rw[this]
    exact hm21
  ·intro hjg
   have hje:j=x.arr.cells.length:=by omega
   subst hje
   rw[List.take_length]at hm17
   refine⟨ini_i64.2 (by omega),fun _=>⟨⟨i+1,a13,n+1,c13,rfl,by omega,hk17,hs17,hl17,hA17,hnew16,by rw[hfp];exact hm17⟩,dec⟩⟩
 ·intro hge w22 hw22 hkn22
  have hie:i=db.length:=by omega
  subst hie
  rw[List.take_length]at hA8 hm8
  have hk22:=hk8.trans hw22
  have s22:=hw22.size
  have hs22:=hs8.keep hw22 (by simp)
  have hlM:(db.map fmtArr).length=db.length:=by simp
  have hInAt:∀(u:Int) {w':World},InI .i64 u→SC w' s l 0 a n c (some m) none 0 0 u→KpL [s] w22 w'→StoIn N w' s l ⟨0,db.map fmtArr,fmtPl 0 db,[],u⟩ m a n c none 0 0:=by
   intro u w' hu hsc hk
   have hA22:=hA8.kp0 hw22
   have hAd:=(hA22.done (by have:=hA8.len;simp at this;omega)).kp hk (by simp)
   have hm22:=(hm8.step hw22 (by simp) (M':=s::l::(blkL a++N)) fun b hb=>.inl hb).step hk (by simp) (M':=s::l::(blkL none++N)) fun b hb=>.inl (by simp[blkL]at hb ⊢;rcases hb with rfl|rfl|hb<;>simp[*])
   refine⟨hsc,hAd.weak fun b hb=>by simpa[blkL]using hb,hm22,Acc.nil' _ fun b hb=>?_,by omega,hsN,hlN,ini_i64.2 (by simp),hu,fun p hpm=>plOf_ini (hv.pls p hpm) hv.sch (by show(db.map fmtArr).length≤1000;omega)⟩
   have:=hA22.mlt b hb
   have:=hk.size
   omega
  have hl22:=hl8.keep hw22 (by simp)
  have hu0:InI .i64 (0:Int):=ini_i64.2 (by omega)
  refine⟨(compacted_ok (st:=⟨0,db.map fmtArr,fmtPl 0 db,[],0⟩) ⟨m,a,n,c,none,0,0,hInAt 0 hu0 hs22 (KpL.refl _ _),hl22,rfl⟩ (by show(db.map fmtArr).length≤_;omega) (by show(fmtPl 0 db).length≤_;omega) (by show(0:Nat)≤_;omega)).mono ?_⟩
  rintro e w23 ⟨rfl,hw23⟩
  have hus:1+8*((db.map fmtArr).length:Int)+3*((fmtPl 0 db).length:Int)+(([]:List Seen).length:Int)=(fmtSto db).use:=rfl
  rw[hus]
  have hs23:=hs22.keep hw23 (by simp)
  have hkS:=hs23.kpS 5 (.int .i64 (fmtSto db).use)
  have hs24:=hs23.set5 (fmtSto db).use
  have hk1l23:k1<w8.heap.size:=by have:=hk06.size;have:=hA8.mlt k1 (by rw[←hN];simp);omega
  have hk2l23:k2<w8.heap.size:=hA8.mlt k2 (by rw[←hN];simp)
  have hsk:s≠k1∧s≠k2:=⟨by rintro rfl;exact hsN (by rw[←hN];simp),by rintro rfl;exact hsN (by rw[←hN];simp)⟩
  refine⟨_,rfl,hw23,fun hkn23=>⟨⟨_,hs23.ld5,rfl⟩,hs23.nf 5,⟨⟨by simp;exact Ne.symm hsk.2⟩,⟨by simp;exact Ne.symm hsk.1⟩⟩,?_⟩⟩
  rintro w24 rfl
  generalize hw24:stA w23 ((⟨s,0,none⟩:Addr).add 5) [.int .i64 (fmtSto db).use] 0=w24 at *
  have hk2224:KpL [s] w22 w24:=(hw23.mono (by simp)).trans hkS
  have s24:=hk2224.size
  have hsge:w.heap.size≤s:=by have:=hk03.size;have:=hw4.size;omega
  have hk24:KpL [] w w24:=hk22.more hk2224 (by simp;omega)
  have hSt24:StoreAt N w24 s l d 1 (0:Nat) (fmtSto db) (s::l::m::blkL none):=⟨m,a,n,c,none,0,0,hInAt _ (ini_i64.2 (by have:=hv.u0;have:=hv.u1;omega)) hs24 hk2224,hl22.keep hk2224 (by simp;omega),rfl⟩
  refine⟨_,hs24.ld5,fun w25 hw25 hkn25=>⟨(dHalf_ok (h.kp0 (hk24.trans hw25)) (by unfold Dk.secs;omega)).mono ?_⟩⟩
  rintro e w26 ⟨rfl,hw26⟩
  have hk2426:=hw25.trans hw26
  refine⟨_,rfl,hw26,fun hlt _=>?_,fun hge2 hkn26=>⟨_,by rw[add_lit];exact ldA_blk (hs24.keep hk2426 (by simp)) 0 [_] rfl,fun kf hkf w27 hw27 hkn27=>?_⟩⟩
  ·rw[if_neg n1,if_neg n2',if_pos hlt]
   exact⟨rfl,hk24.trans hk2426⟩
  have hk2427:=hk2426.trans hw27
  have hk27:=hk24.trans hk2427
  have s27:=hk2427.size
  have hkfl:=block_lt hkn27.1
  have hge':¬((k.half:Int)<(fmtSto db).use):=hge2
  have hA':=hA (by omega)
  have s2426:=hk2426.size
  generalize hFF:s::l::m::blkL none=F at *
  have hFn:∀b∈F,w.heap.size≤b:=by
   intro b hb
   have:=hk03.size
   have:=hw4.size
   rw[←hFF]at hb
   simp[blkL]at hb
   rcases hb with rfl|rfl|rfl<;>omega
  have hSt27:StoreAt (Fd++(kf::k1::k2::M)) w27 s l d 1 (0:Nat) (fmtSto db) F:=hSt24.step hk2427 (by simp) fun b hb=>by
   have hb':b=kf∨b∈N:=by
    rw[←hN]
    simp only[List.mem_append,List.mem_cons]at hb ⊢
    rcases hb with hb|rfl|rfl|rfl|hb
    ·exact .inr (.inr (.inr (.inl hb)))
    ·exact .inl rfl
    ·exact .inr (.inl rfl)
    ·exact .inr (.inr (.inl rfl))
    ·exact .inr (.inr (.inr (.inr hb)))
   rcases hb' with rfl|hb'
   ·exact⟨.inr (by omega),hkfl⟩
   ·exact⟨.inl hb',by have:=hSt24.mlt b hb';omega⟩
  have hD27:DkAt (F++(kf::k1::k2::M)) w27 d k Fd:=h.step hk27 (by simp) fun b hb=>by
   rcases List.mem_append.1 hb with hb|hb
   ·exact⟨.inr (hFn b hb),(hSt27.own_lt b hb).1⟩
   ·refine⟨?_,hSt27.mlt b (List.mem_append_right _ hb)⟩
    simp only[List.mem_cons]at hb
    rcases hb with rfl|rfl|rfl|hb
    ·exact .inr (by have:=hk24.size;omega)
    ·exact .inr hk1
    ·exact .inr (by have:=hk03.size;have:=hw4.size;omega)
    ·exact .inl hb
  have hSys:SysAt (kf::k1::k2::M) w27 s l d 1 0 (fmtSto db) k F Fd:=⟨hSt27,hD27⟩
  have hOwn:=hSys.own_lt
  refine⟨(fmtSteps (kf:=kf) (vd:=k1) (vs:=k2) hSys hv hpl (by simp) (fun ps' hp'=>(hA' ps' hp').1) (fun ps' hp'=>(hA' ps' hp').2.1) hkn27.1 hkn27.2.2 hkn27.2.1).mono ?_⟩
  rintro e w28 ⟨ps',hperm,rfl,Fd',nxt',hSys',hO,hnx⟩
  have nk2:k2∉F++Fd:=fun hm=>(hOwn k2 hm).2 (by simp)
  have nk1:k1∉F++Fd:=fun hm=>(hOwn k1 hm).2 (by simp)
  have eenc:encBase (fmtSto db).arrays (fmtSto db).batches ps'=encBase (db.map fmtArr) [] ps':=rfl
  rw[eenc]at hSys' hnx ⊢
  generalize hr:k.fmt (encBase (db.map fmtArr) [] ps')=r at *
  have hOw:Own Fd w (F++Fd') w28:=by
   refine⟨(KpL.refl _ _ |>.trans (hk27.mono (by simp))).more hO.kp fun b hb=>?_,fun b hb=>?_⟩
   ·rcases List.mem_append.1 hb with hb|hb
    ·exact .inr (hFn b hb)
    ·exact .inl hb
   ·rcases hO.new b hb with hb|hb
    ·rcases List.mem_append.1 hb with hb|hb
     ·exact .inr (hFn b hb)
     ·exact .inl hb
    ·exact .inr (by have:=hk27.size;omega)
  refine⟨_,rfl,_,hO.kp,⟨⟨nk2⟩,⟨nk1⟩⟩,fun hne _=>?_,fun hz2 hkn28=>⟨(opened_ok (hSys'.weak (M':=M) (by simp;intro b hb;simp[hb])).sto (hSys'.weak (M':=M) (by simp;intro b hb;simp[hb])).dk ?_).mono ?_⟩⟩
  ·rw[if_neg n1,if_neg n2',if_neg hge']
   refine⟨ps',hperm,?_⟩
   rw[hr,if_pos hne]
   refine⟨rfl,Fd',(hSys'.dk.weak fun b hb=>by simp[hb]),⟨hOw.kp,fun b hb=>hOw.new b (by simp[hb])⟩⟩
  ·have:=(hA' ps' hperm).2.2
   rw[hr]at this
   exact this
  ·rintro e w29 ⟨rfl,hS29,hD29,hO29⟩
   have nk:∀x∈[k1,k2],x∉F++Fd':=fun x hx hm=>(hSys'.own_lt x hm).2 (by simp at hx;rcases hx with rfl|rfl<;>simp)
   refine⟨_,rfl,_,hO29.kp,⟨⟨nk k2 (by simp)⟩,⟨nk k1 (by simp)⟩⟩,fun _=>?_⟩
   rw[if_neg n1,if_neg n2',if_neg hge']
   refine⟨ps',hperm,?_⟩
   rw[hr,if_neg hz2]
   have hnx':=hnx (Classical.not_not.1 hz2)
   subst hnx'
   exact⟨s,l,F,Fd',rfl,⟨hS29,hD29⟩,hOw.trans hO29⟩
end Go.Vc
namespace Go.Vc
open Go Go.Proofs
structure Cl (k:Dk):Prop where
 on:k.down=false
 fu:k.fuse = -1
 len:k.now.length=64*k.n
theorem tear_sec{l b:List Int}{i:Nat}(hi:i*64+64≤l.length)(hb:b.length=64):secOf (tear1 l i b 0 64) i=b∧(∀j,j≠i→secOf (tear1 l i b 0 64) j=secOf l j)∧(tear1 l i b 0 64).length=l.length:=by
 have e:tear1 l i b 0 64=l.take (i*64)++(b++l.drop (i*64+64)):=by
  unfold tear1
  simp[hb,List.take_of_length_le]
 rw[e]
 unfold secOf
 refine⟨?_,fun j hj=>?_,by simp[hb];omega⟩
 ·rw[List.drop_append,List.drop_eq_nil_of_le (by simp;omega),List.nil_append]
  have:i*64 - (l.take (i*64)).length=0:=by simp;omega
  rw[this,List.drop_zero,List.take_append,hb,Nat.sub_self,List.take_zero,List.append_nil,List.take_of_length_le (by omega)]
 ·apply List.ext_getElem?
  intro m
  simp only[List.getElem?_take,List.getElem?_drop]
  split
  ·rename_i hm
   rw[List.getElem?_append]
   split
   ·rename_i h1
    rw[List.getElem?_take,if_pos (by simp at h1;omega)]
   ·rename_i h1
    simp only[List.length_take]at h1
    have h2:i*64≤j*64+m:=by omega
    have h3:i*64+64≤j*64+m:=by
     rcases Nat.lt_or_gt_of_ne hj with h|h
     ·omega
     ·omega
    rw[List.getElem?_append_right (by simp[hb];omega),List.getElem?_drop]
    congr 1
    simp[hb]
    omega
  ·rfl
theorem Cl.write{k:Dk}(h:Cl k){i:Nat}{b:List Int}(hi:i<k.n)(hb:b.length=64):
 (k.write i b).1=0∧Cl (k.write i b).2∧(k.write i b).2.n=k.n∧(k.write i b).2.st=k.st∧secOf (k.write i b).2.now i=b∧(∀j,j≠i→secOf (k.write i b).2.now j=secOf k.now j)∧(k.write i b).2.pend.length=k.pend.length+1:=by
 have hl:=h.len
 have e:k.write i b=(0,k.put i b):=by
  unfold Dk.write
  rw[if_neg (by simp[h.on])]
  have e1:(k.put i b).fails=(false,k.put i b):=by
   unfold Dk.fails
   have:(k.put i b).fuse = -1:=h.fu
   rw[if_neg (by omega),if_neg (by omega)]
  rw[e1]
  simp
 rw[e]
 obtain⟨t1,t2,t3⟩:=tear_sec (l:=k.now) (i:=i) (by omega) hb
 exact⟨rfl,⟨h.on,h.fu,t3.trans hl⟩,rfl,rfl,t1,t2,by simp[Dk.put]⟩
theorem Cl.sync{k:Dk}(h:Cl k):k.sync.1=0∧Cl k.sync.2∧k.sync.2.n=k.n∧k.sync.2.st=k.st∧k.sync.2.now=k.now∧k.sync.2.pend=[]:=by
 have e1:k.fails=(false,k):=by
  unfold Dk.fails
  have:=h.fu
  rw[if_neg (by omega),if_neg (by omega)]
 have e:k.sync=(0,{ k with dur:=k.now,pend:=[] }):=by
  unfold Dk.sync
  rw[if_neg (by simp[h.on]),e1]
  simp
 rw[e]
 exact⟨rfl,⟨h.on,h.fu,h.len⟩,rfl,rfl,rfl,rfl⟩
theorem Cl.add1L{at0:Nat}{b:List Int}:∀{f i:Nat} {k:Dk},Cl k→at0+i+f≤k.n→
 (Dk.add1L at0 b f i k).1=0∧Cl (Dk.add1L at0 b f i k).2∧(Dk.add1L at0 b f i k).2.n=k.n∧(Dk.add1L at0 b f i k).2.st=k.st∧(∀j,i≤j→j<i+f→secOf (Dk.add1L at0 b f i k).2.now (at0+j)=part_ b j)∧
 (∀j,j<at0+i∨at0+i+f≤j→secOf (Dk.add1L at0 b f i k).2.now j=secOf k.now j)∧(Dk.add1L at0 b f i k).2.pend=[]
 |0,i,k,h,hn=>by
  rw[Dk.add1L]
  obtain⟨s1,s2,s3,s4,s5,s6⟩:=h.sync
  exact⟨s1,s2,s3,s4,fun j h1 h2=>by omega,fun j _=>by rw[s5],s6⟩
 |f+1,i,k,h,hn=>by
  obtain⟨w1,w2,w3,w4,w5,w6,w7⟩:=h.write (i:=at0+i) (b:=part_ b i) (by omega) (part_len b i)
  rw[Dk.add1L,if_neg (by simp[w1])]
  obtain⟨r1,r2,r3,r4,r5,r6,r7⟩:=Cl.add1L (at0:=at0) (b:=b) (f:=f) (i:=i+1) w2 (by omega)
  refine⟨r1,r2,r3.trans w3,r4.trans w4,fun j h1 h2=>?_,fun j hj=>?_,r7⟩
  ·by_cases hj:j=i
   ·subst hj
    rw[r6 (at0+j) (by omega),w5]
   ·exact r5 j (by omega) (by omega)
  ·rw[r6 j (by omega),w6 j (by omega)]
theorem headOf_len(q:Int)(n:Nat):(headOf q n).length=64:=by simp[headOf]
theorem Cl.base_le{k:Dk}{num:Int}(hnum:0≤num)(hn:2≤k.n){i:Nat}(hi:i<k.half):k.base num+i<k.n:=by
 unfold Dk.base
 unfold Dk.half Dk.secs at hi ⊢
 have:(num%2).toNat≤1:=by omega
 rcases Nat.lt_or_ge (num%2).toNat 1 with h|h
 ·have:(num%2).toNat=0:=by omega
  rw[this];omega
 ·have:(num%2).toNat=1:=by omega
  rw[this];omega
theorem Cl.add{k:Dk}(h:Cl k){num:Int}{nxt:Nat}{q:Int}{b:List Int}(hnum:0≤num)(hn:2≤k.n)(hfit:nxt+secsOf b<k.half):
 (k.add num nxt q b).1=0∧Cl (k.add num nxt q b).2∧(k.add num nxt q b).2.n=k.n∧(k.add num nxt q b).2.st=k.st∧secOf (k.add num nxt q b).2.now (k.base num+nxt)=headOf q b.length∧(∀j,j<secsOf b→secOf (k.add num nxt q b).2.now (k.base num+nxt+1+j)=part_ b j)∧
 (∀j,j<k.base num+nxt∨k.base num+nxt+1+secsOf b≤j→secOf (k.add num nxt q b).2.now j=secOf k.now j)∧(k.add num nxt q b).2.pend=[]∧(k.pend.length≤900000→AddOk k num nxt q b):=by
 have hb1:=Cl.base_le (k:=k) hnum hn (i:=nxt+secsOf b) hfit
 have ha1:k.add1 num nxt b=Dk.add1L (k.base num+nxt+1) b (secsOf b) 0 k:=rfl
 obtain⟨a1,a2,a3,a4,a5,a6,a7⟩:=Cl.add1L (at0:=k.base num+nxt+1) (b:=b) (f:=secsOf b) (i:=0) h (by omega)
 obtain⟨w1,w2,w3,w4,w5,w6,w7⟩:=a2.write (i:=k.base num+nxt) (b:=headOf q b.length) (by rw[a3];omega) (headOf_len q b.length)
 obtain⟨s1,s2,s3,s4,s5,s6⟩:=w2.sync
 have e:k.add num nxt q b=((Dk.add1L (k.base num+nxt+1) b (secsOf b) 0 k).2.write (k.base num+nxt) (headOf q b.length)).2.sync:=by
  unfold Dk.add
  rw[ha1,if_neg (by simp[a1]),if_neg (by simp[w1])]
 rw[e]
 refine⟨s1,s2,s3.trans (w3.trans a3),s4.trans (w4.trans a4),by rw[s5,w5],fun j hj=>?_,fun j hj=>?_,s6,fun hp=>⟨hn,hfit,hp,?_,?_⟩⟩
 ·rw[s5,w6 _ (by omega),a5 j (by omega) (by omega)]
 ·rw[s5,w6 _ (by omega),a6 j (by omega)]
 ·rw[ha1,a7];simp
 ·rw[ha1,w7,a7];simp
end Go.Vc
namespace Go.Vc
open Go Go.Proofs
def RecAt(l:List Int)(at0:Nat)(q:Int)(b:List Int):Prop:=secOf l at0=headOf q b.length∧∀j,j<secsOf b→secOf l (at0+1+j)=part_ b j
theorem headOf_0(q:Int)(n:Nat):(headOf q n).getD 0 0=q∧(headOf q n).getD 63 0=q:=by
 constructor
 ·rfl
 ·unfold headOf;rfl
theorem headOf_size(q:Int){n:Nat}(h:n<16777216):recSize (headOf q n)=n:=by
 have e1:(headOf q n).getD 1 0=((n / 65536%256:Nat):Int):=rfl
 have e2:(headOf q n).getD 2 0=((n / 256%256:Nat):Int):=rfl
 have e3:(headOf q n).getD 3 0=((n%256:Nat):Int):=rfl
 unfold recSize
 rw[e1,e2,e3]
 omega
def partsL(b:List Int):Nat→List Int
 |0=>[]
 |n+1=>partsL b n++part_ b n
theorem partsL_len(b:List Int):∀n,(partsL b n).length=64*n
 |0=>rfl
 |n+1=>by rw[partsL,List.length_append,partsL_len b n,part_len];omega
theorem partsL_take(b:List Int):∀n,(partsL b n).take b.length=b.take (64*n)
 |0=>by simp[partsL]
 |n+1=>by
  rw[partsL,List.take_append,partsL_take b n,partsL_len]
  unfold part_
  have e0:b.take (64*(n+1))=b.take (64*n)++(b.drop (64*n)).take 64:=by
   rw[←List.take_add]
   rfl
  rw[e0]
  congr 1
  rw[show n*64=64*n from by omega]
  by_cases h:64*n≤b.length
  ·rw[List.take_append]
   have hl:((b.drop (64*n)).take 64).length=min 64 (b.length - 64*n):=by simp
   rw[List.take_of_length_le (by rw[hl];omega)]
   by_cases h2:b.length - 64*n≤64
   ·have:b.length - 64*n - ((b.drop (64*n)).take 64).length=0:=by rw[hl];omega
    rw[this,List.take_zero,List.append_nil]
   ·have:64 - ((b.drop (64*n)).take 64).length=0:=by rw[hl];omega
    rw[this]
    simp
  ·rw[show b.length - 64*n=0 from by omega,List.take_zero,List.drop_eq_nil_of_le (by omega)]
   rfl
theorem partsOf_eq{k:Dk}{at0:Nat}{b:List Int}:∀{n:Nat},(∀j,j<n→secOf k.now (at0+j)=part_ b j)→k.partsOf at0 n=partsL b n
 |0,_=>rfl
 |n+1,h=>by rw[Dk.partsOf,partsL,partsOf_eq fun j hj=>h j (by omega),h n (by omega)]
theorem readRec_at{k:Dk}(h:k.down=false){num:Int}(hnum:0≤num)(hn:2≤k.n){i:Nat}{q:Int}{b:List Int}(hr:RecAt k.now (k.base num+i) q b)(hfit:i+secsOf b<k.half)(hb:b.length<16777216):
 k.readRec num i=(q,b,i+1+secsOf b,0):=by
 have hle:=Cl.base_le (k:=k) hnum hn (i:=i) (by omega)
 have e0:k.readE (k.base num+i:Nat)=0:=by
  unfold Dk.readE
  have:(k.secs:Int)=(k.n:Nat):=rfl
  rw[if_neg (by omega),if_neg (by simp[h])]
 have hs:(recSize (secOf k.now (k.base num+i))+63) / 64=secsOf b:=by rw[hr.1,headOf_size q hb];rfl
 unfold Dk.readRec
 rw[if_neg (by omega),if_neg (by rw[e0];simp),hs,if_neg (by rw[hr.1,(headOf_0 q _).1,(headOf_0 q _).2];simp),if_neg (by omega)]
 rw[partsOf_eq (b:=b) fun j hj=>hr.2 j hj,hr.1,headOf_size q hb,(headOf_0 q _).1,partsL_take]
 congr 2
 exact List.take_of_length_le (by unfold secsOf;omega)
theorem readRec_zero{k:Dk}(h:k.down=false){num:Int}(hnum:0≤num)(hn:2≤k.n){i:Nat}(hr:i<k.half→secOf k.now (k.base num+i)=zeros):(k.readRec num i).1=0∧(k.readRec num i).2.2.2=0:=by
 unfold Dk.readRec
 by_cases hi:k.half≤i
 ·rw[if_pos hi];exact⟨rfl,rfl⟩
 ·have hle:=Cl.base_le (k:=k) hnum hn (i:=i) (by omega)
  have e0:k.readE (k.base num+i:Nat)=0:=by
   unfold Dk.readE
   have:(k.secs:Int)=(k.n:Nat):=rfl
   rw[if_neg (by omega),if_neg (by simp[h])]
  rw[if_neg hi,if_neg (by rw[e0];simp),hr (by omega)]
  split
  ·exact⟨rfl,rfl⟩
  ·split
   ·exact⟨rfl,rfl⟩
   ·exact⟨rfl,rfl⟩
def LogL(l:List Int)(base half:Nat):Nat→List (Int×List Int)→Nat→Prop
 |i,[],e=>e=i∧∀j,i≤j→j<half→secOf l (base+j)=zeros
 |i,q::r,e=>RecAt l (base+i) q.1 q.2∧i+secsOf q.2<half∧q.2.length<16777216∧LogL l base half (i+1+secsOf q.2) r e
theorem LogL.recs{k:Dk}(h:k.down=false){num:Int}(hnum:0≤num)(hn:2≤k.n):∀{rs:List (Int×List Int)} {i e:Nat},LogL k.now (k.base num) k.half i rs e→Recs k num i rs e
 |[],i,e,hl=>by
  obtain⟨rfl,hz⟩:=hl
  have:=readRec_zero h hnum hn (i:=e) fun hi=>hz e (Nat.le_refl _) hi
  exact⟨rfl,this.1,this.2⟩
 |q::r,i,e,hl=>by
  obtain⟨h1,h2,h3,h4⟩:=hl
  exact⟨_,readRec_at h hnum hn h1 h2 h3,by omega,by omega,LogL.recs h hnum hn h4⟩
theorem LogL.end_le{l:List Int}{base half:Nat}:∀{rs:List (Int×List Int)} {i e:Nat},LogL l base half i rs e→i≤e
 |[],_,_,h=>by rw[h.1];exact Nat.le_refl _
 |q::r,i,e,h=>by have:=h.2.2.2.end_le;omega
theorem LogL.snoc{l l':List Int}{base half:Nat}{q:Int×List Int}:∀{rs:List (Int×List Int)} {i e:Nat},LogL l base half i rs e→RecAt l' (base+e) q.1 q.2→e+secsOf q.2<half→q.2.length<16777216→(∀j,j<base+e∨base+e+1+secsOf q.2≤j→secOf l' j=secOf l j)→LogL l' base half i (rs++[q]) (e+1+secsOf q.2)
 |[],i,e,h,hr,hf,hb,ho=>by
  obtain⟨rfl,hz⟩:=h
  refine⟨hr,hf,hb,rfl,fun j h1 h2=>?_⟩
  rw[ho _ (.inr (by omega))]
  exact hz j (by omega) h2
 |p::r,i,e,h,hr,hf,hb,ho=>by
  obtain⟨h1,h2,h3,h4⟩:=h
  have hle:=h4.end_le
  refine⟨⟨?_,fun j hj=>?_⟩,h2,h3,h4.snoc hr hf hb ho⟩
  ·rw[ho _ (.inl (by omega))];exact h1.1
  ·rw[ho _ (.inl (by omega))];exact h1.2 j hj
end Go.Vc
namespace Go.Vc
open Go Go.Proofs
theorem zeros_len:zeros.length=64:=by simp[zeros]
theorem Cl.zeroL:∀{f i:Nat} {k:Dk},Cl k→i+f≤k.n→
 (Dk.zeroL f i k).1=0∧Cl (Dk.zeroL f i k).2∧(Dk.zeroL f i k).2.n=k.n∧(Dk.zeroL f i k).2.st=k.st∧(∀j,i≤j→j<i+f→secOf (Dk.zeroL f i k).2.now j=zeros)∧(∀j,j<i→secOf (Dk.zeroL f i k).2.now j=secOf k.now j)∧(Dk.zeroL f i k).2.pend=[]
 |0,i,k,h,hn=>by
  rw[Dk.zeroL]
  obtain⟨s1,s2,s3,s4,s5,s6⟩:=h.sync
  exact⟨s1,s2,s3,s4,fun j h1 h2=>by omega,fun j _=>by rw[s5],s6⟩
 |f+1,i,k,h,hn=>by
  obtain⟨w1,w2,w3,w4,w5,w6,w7⟩:=h.write (i:=i) (b:=zeros) (by omega) zeros_len
  rw[Dk.zeroL,if_neg (by simp[w1])]
  obtain⟨r1,r2,r3,r4,r5,r6,r7⟩:=Cl.zeroL (f:=f) (i:=i+1) w2 (by omega)
  refine⟨r1,r2,r3.trans w3,r4.trans w4,fun j h1 h2=>?_,fun j hj=>?_,r7⟩
  ·by_cases hj:j=i
   ·subst hj
    rw[r6 j (by omega),w5]
   ·exact r5 j (by omega) (by omega)
  ·rw[r6 j (by omega),w6 j (by omega)]
theorem Cl.zero{k:Dk}(h:Cl k):k.zero.1=0∧Cl k.zero.2∧k.zero.2.n=k.n∧k.zero.2.st=k.st∧(∀j,j<k.n→secOf k.zero.2.now j=zeros)∧k.zero.2.pend=[]:=by
 obtain⟨a,b,c,d,e,_,g⟩:=Cl.zeroL (f:=k.n) (i:=0) h (by omega)
 exact⟨a,b,c,d,fun j hj=>e j (by omega) (by omega),g⟩
theorem Cl.readE{k:Dk}(h:Cl k){i:Nat}(hi:i<k.n):k.readE i=0:=by
 unfold Dk.readE
 have:(k.secs:Int)=(k.n:Nat):=rfl
 rw[if_neg (by omega),if_neg (by simp[h.on])]
theorem any_zeros{l:List Int}(hl:l.length=64):l.any (fun x=>decide (x≠0))=true∨l=zeros:=by
 by_cases h:l.any (fun x=>decide (x≠0))=true
 ·exact .inl h
 ·refine .inr ?_
  simp only[List.any_eq_true,decide_eq_true_eq,not_exists,not_and,Decidable.not_not]at h
  unfold zeros
  rw[←hl]
  exact List.eq_replicate_of_mem h
theorem Cl.clearL{num:Int}:∀{f i:Nat} {wr:Bool} {k:Dk},Cl k→k.base num+i+f≤k.n→
 (Dk.clearL num f i wr k).1=0∧Cl (Dk.clearL num f i wr k).2∧(Dk.clearL num f i wr k).2.n=k.n∧(Dk.clearL num f i wr k).2.st=k.st∧(∀j,i≤j→j<i+f→secOf (Dk.clearL num f i wr k).2.now (k.base num+j)=zeros)∧
 (∀j,j<k.base num+i∨k.base num+i+f≤j→secOf (Dk.clearL num f i wr k).2.now j=secOf k.now j)∧(Dk.clearL num f i wr k).2.pend.length≤k.pend.length+f
 |0,i,wr,k,h,hn=>by
  rw[Dk.clearL]
  split
  ·obtain⟨s1,s2,s3,s4,s5,s6⟩:=h.sync
   exact⟨s1,s2,s3,s4,fun j h1 h2=>by omega,fun j _=>by rw[s5],by rw[s6];simp⟩
  ·exact⟨rfl,h,rfl,rfl,fun j h1 h2=>by omega,fun j _=>rfl,Nat.le_refl _⟩
 |f+1,i,wr,k,h,hn=>by
  have hr:=h.readE (i:=k.base num+i) (by omega)
  rw[Dk.clearL,if_neg (by rw[hr];simp)]
  have hsl:(secOf k.now (k.base num+i)).length=64:=secOf_len (by have:=h.len;omega)
  split
  ·obtain⟨w1,w2,w3,w4,w5,w6,w7⟩:=h.write (i:=k.base num+i) (b:=zeros) (by omega) zeros_len
   rw[if_neg (by simp[w1])]
   have hb:(k.write (k.base num+i) zeros).2.base num=k.base num:=Dk.base_n w3 num
   obtain⟨r1,r2,r3,r4,r5,r6,r7⟩:=Cl.clearL (num:=num) (f:=f) (i:=i+1) (wr:=true) w2 (by omega)
   rw[hb]at r5 r6
   refine⟨r1,r2,r3.trans w3,r4.trans w4,fun j h1 h2=>?_,fun j hj=>?_,by omega⟩
   ·by_cases hj:j=i
    ·subst hj
     rw[r6 _ (by omega),w5]
    ·exact r5 j (by omega) (by omega)
   ·rw[r6 j (by omega),w6 j (by omega)]
  ·rename_i hz
   have hz':secOf k.now (k.base num+i)=zeros:=(any_zeros hsl).resolve_left hz
   obtain⟨r1,r2,r3,r4,r5,r6,r7⟩:=Cl.clearL (num:=num) (f:=f) (i:=i+1) (wr:=wr) h (by omega)
   refine⟨r1,r2,r3,r4,fun j h1 h2=>?_,fun j hj=>r6 j (by omega),by omega⟩
   by_cases hj:j=i
   ·subst hj
    rw[r6 _ (by omega),hz']
   ·exact r5 j (by omega) (by omega)
theorem Cl.clear{k:Dk}(h:Cl k){num:Int}(hnum:0≤num)(hn:2≤k.n){i:Nat}(hi:i≤k.half):
 (k.clear num i).1=0∧Cl (k.clear num i).2∧(k.clear num i).2.n=k.n∧(k.clear num i).2.st=k.st∧(∀j,i≤j→j<k.half→secOf (k.clear num i).2.now (k.base num+j)=zeros)∧
 (∀j,j<k.base num+i∨k.base num+k.half≤j→secOf (k.clear num i).2.now j=secOf k.now j)∧(k.clear num i).2.pend.length≤k.pend.length+k.half:=by
 have hb:k.base num+k.half≤k.n:=by
  by_cases h0:k.half=0
  ·unfold Dk.base
   unfold Dk.half Dk.secs at h0 ⊢
   have:(num%2).toNat≤1:=by omega
   rw[h0];omega
  ·have:=Cl.base_le (k:=k) hnum hn (i:=k.half - 1) (by omega);omega
 obtain⟨r1,r2,r3,r4,r5,r6,r7⟩:=Cl.clearL (num:=num) (f:=k.half - i) (i:=i) (wr:=false) h (by omega)
 exact⟨r1,r2,r3,r4,fun j h1 h2=>r5 j h1 (by omega),fun j hj=>r6 j (by omega),by unfold Dk.clear;omega⟩
theorem Cl.note{k:Dk}(h:Cl k){num:Int}(hn:2≤k.n):
 (k.note num).1=0∧Cl (k.note num).2∧(k.note num).2.n=k.n∧(k.note num).2.st=k.st∧secOf (k.note num).2.now (num%2).toNat=noteOf num∧(∀j,j≠(num%2).toNat→secOf (k.note num).2.now j=secOf k.now j)∧(k.note num).2.pend=[]:=by
 obtain⟨w1,w2,w3,w4,w5,w6,w7⟩:=h.write (i:=(num%2).toNat) (b:=noteOf num) (by omega) (noteP_len num 8)
 obtain⟨s1,s2,s3,s4,s5,s6⟩:=w2.sync
 have e:k.note num=(k.write (num%2).toNat (noteOf num)).2.sync:=by unfold Dk.note;rw[if_neg (by simp[w1])]
 rw[e]
 exact⟨s1,s2,s3.trans w3,s4.trans w4,by rw[s5,w5],fun j hj=>by rw[s5,w6 j hj],s6⟩
theorem noteOf_take(num:Int):(noteOf num).take 8=[nbyte num 0,nbyte num 1,nbyte num 2,nbyte num 3,nbyte num 4,nbyte num 5,nbyte num 6,nbyte num 7]:=rfl
theorem numB_note{num:Int}(h0:0≤num)(h1:num<1000000000):numB ((noteOf num).take 8)=num:=by
 rw[noteOf_take]
 unfold numB nbyte
 simp only[List.foldl_cons,List.foldl_nil]
 simp only[Nat.reduceMul,Nat.reduceSub,Nat.reducePow,Int.cast_ofNat_Int]
 omega
theorem numB_zero:numB (zeros.take 8)=0:=by decide
def NoteIs(l:List Int)(num:Int):Prop:=secOf l (num%2).toNat=noteOf num∧(secOf l (1 - (num%2).toNat)=zeros∨∃m:Int,0≤m∧m<num∧secOf l (1 - (num%2).toNat)=noteOf m)
theorem newest_eq{k:Dk}{num:Int}(h0:0<num)(h1:num<1000000000)(h:NoteIs k.now num):k.newest=num:=by
 obtain⟨ha,hb⟩:=h
 have hA:(secOf k.now (num%2).toNat).take 8=(secOf k.now (num%2).toNat).drop 56∧numB ((secOf k.now (num%2).toNat).take 8)=num:=by
  rw[ha];exact⟨rfl,numB_note (by omega) h1⟩
 have hB:numB ((secOf k.now (1 - (num%2).toNat)).take 8)<num∧0≤numB ((secOf k.now (1 - (num%2).toNat)).take 8):=by
  rcases hb with hb|⟨m,m0,m1,hb⟩
  ·rw[hb,numB_zero];omega
  ·rw[hb,numB_note m0 (by omega)];omega
 unfold Dk.newest Dk.noted
 rcases (by omega:num%2=0∨num%2=1) with hp|hp
 ·rw[hp]at hA hB
  simp only[Int.toNat_zero,Nat.sub_zero]at hA hB
  have hin:(if (secOf k.now 0).take 8=(secOf k.now 0).drop 56∧0<numB ((secOf k.now 0).take 8)∧numB ((secOf k.now 0).take 8)%2=(0:Nat) then numB ((secOf k.now 0).take 8) else 0)=num:=by
   rw[if_pos ⟨hA.1,by rw[hA.2];omega,by rw[hA.2];omega⟩,hA.2]
  rw[hin,if_neg (by omega)]
 ·rw[hp]at hA hB
  have e1:(1:Int).toNat=1:=rfl
  rw[e1]at hA hB
  rw[Nat.sub_self]at hB
  have hc:(if (secOf k.now 0).take 8=(secOf k.now 0).drop 56∧0<numB ((secOf k.now 0).take 8)∧numB ((secOf k.now 0).take 8)%2=(0:Nat) then numB ((secOf k.now 0).take 8) else 0)<num:=by split<;>omega
  rw[if_pos ⟨hA.1,by rw[hA.2];exact hc,by rw[hA.2];omega⟩,hA.2]
end Go.Vc
namespace Go.Vc
open Go Go.Proofs
theorem encNm_191{x:Nm}(hn:nameOk x.name=true)(hs:schemaE x.arr.dims x.arr.attrs=0):(encNm x).length≤191:=by
 obtain⟨h1,_,h3⟩:=sch_dims hs
 have h14:=dims_14 h1
 have e1:=encS_12 (nameOk_12 hn).2
 have e2:=encU_lt 0 (n:=x.arr.dims.length) (by simp;omega)
 have e3:=encU_lt 0 (n:=x.arr.attrs.length) (by simp;omega)
 have e4:=flat_le (f:=encD) (k:=23) (l:=x.arr.dims) fun d hd=>by
  obtain⟨d1,d2,d3,d4,d5⟩:=dims_in h1 d hd
  have a1:=encS_12 (nameOk_12 d1).2
  have a2:=encU_lt 4 (n:=zig d.lo) (by have:=zig_lt (x:=d.lo) (b:=1073741825) (by omega) (by omega);omega)
  have a3:=encU_lt 4 (n:=zig d.hi) (by have:=zig_lt (x:=d.hi) (b:=1073741825) (by omega) (by omega);omega)
  unfold encD
  simp only[List.length_append]
  omega
 have e5:=flat_le (f:=encA) (k:=14) (l:=x.arr.attrs) fun d hd=>by
  have a1:=encS_12 (nameOk_12 (sch_attrs hs d hd).1).2
  unfold encA
  simp only[List.length_append,List.length_cons,List.length_nil]
  omega
 unfold encNm
 simp only[List.length_append]
 omega
theorem encBase_len{st:Sto}(h:StoV st){ps:List (Pl×Sta)}(hp:ps.Perm st.places):(encBase st.arrays st.batches ps).length≤64*(8*st.arrays.length+3*st.places.length+st.batches.length):=by
 have h1:=h.a1
 have h2:=h.an
 have h3:=h.bn
 have h4:=h.pn
 have hl:=hp.length_eq
 have e1:=encU_lt 0 (n:=st.arrays.length) (by simp;omega)
 have e2:=encU_lt 1 (n:=st.batches.length) (by simp;omega)
 have e3:=encU_lt 1 (n:=ps.length) (by simp;omega)
 have e4:=flat_le (f:=encNm) (k:=191) (l:=st.arrays) fun x hx=>encNm_191 (h.nms x hx) (h.sch x hx)
 have e5:=flat_le (f:=encSeen) (k:=19) (l:=st.batches) fun x hx=>by
  obtain⟨b1,b2,b3⟩:=h.bat x hx
  have a1:=encS_12 (nameOk_12 b1).2
  have a2:=encU_lt 5 (n:=zig x.stamp) (by have:=zig_lt (x:=x.stamp) (b:=1099511627776) (by omega) (by omega);omega)
  unfold encSeen
  simp only[List.length_append]
  omega
 have e6:=flat_le (f:=encPs st.arrays) (k:=132) (l:=ps) fun p hpm=>by
  have hpo:=h.pls p (hp.mem_iff.1 hpm)
  obtain⟨g1,g2,g3,g4,g5,g6,g7,g8⟩:=hpo.dims h.sch
  have ga:=hpo.a0
  have gb0:=hpo.b0
  have gb1:=hpo.b1
  have a1:=encU_lt 0 (n:=IntKind.u64.wrap p.1.a) (by rw[wrap_in (ini_u64.2 (by omega))];simp;omega)
  have a2:=encAt_len g5 (by omega)
  have a3:=encU_lt 1 (n:=IntKind.u64.wrap p.2.batch) (by rw[wrap_in (ini_u64.2 (by omega))];simp;omega)
  have a4:=encVs_len g8 g7
  unfold encPs
  simp only[List.length_append]
  omega
 unfold encBase encBase1
 simp only[List.length_append]
 omega
theorem encBase_secs{st:Sto}(h:StoV st){ps:List (Pl×Sta)}(hp:ps.Perm st.places):secsOf (encBase st.arrays st.batches ps)≤8*st.arrays.length+3*st.places.length+st.batches.length:=by
 have:=encBase_len h hp
 unfold secsOf
 omega
theorem encB_secs{st:Sto}{b:Bt}(hs:∀x∈st.arrays,schemaE x.arr.dims x.arr.attrs=0)(ha:st.arrays.length≤16)(h:BtOk st b):secsOf (encB st.arrays b)≤1+3*b.changes.length∧(encB st.arrays b).length<16777216:=by
 have:=encB_len hs ha h
 have:=h.c2
 unfold secsOf
 omega
end Go.Vc
namespace Go.Vc
open Go Go.Proofs
theorem putM_keys{κ β:Type}[DecidableEq κ]{l:List (κ×β)}{k:κ}{v:β}:(putM l k v).map (·.1)=if k∈l.map (·.1) then l.map (·.1) else l.map (·.1)++[k]:=by
 unfold putM
 by_cases h:k∈l.map (·.1)
 ·rw[if_pos h,if_pos,List.map_map]
  ·apply List.map_congr_left
   intro p _
   simp only[Function.comp]
   split
   ·rename_i e;simp_all
   ·rfl
  ·obtain⟨p,hp,he⟩:=List.mem_map.1 h
   rw[List.any_eq_true]
   exact⟨p,hp,by simpa using he⟩
 ·rw[if_neg h,if_neg]
  ·simp
  ·rw[List.any_eq_true]
   rintro⟨p,hp,he⟩
   exact h (List.mem_map.2 ⟨p,hp,by simpa using he⟩)
theorem putM_nd{κ β:Type}[DecidableEq κ]{l:List (κ×β)}{k:κ}{v:β}(h:(l.map (·.1)).Nodup):((putM l k v).map (·.1)).Nodup:=by
 rw[putM_keys]
 split
 ·exact h
 ·rename_i hk
  rw[List.nodup_append]
  exact⟨h,by simp,fun a ha b hb=>by simp at hb;subst hb;rintro rfl;exact hk ha⟩
theorem putM_len{κ β:Type}[DecidableEq κ]{l:List (κ×β)}{k:κ}{v:β}:(putM l k v).length≤l.length+1:=by
 have:=congrArg List.length (putM_keys (l:=l) (k:=k) (v:=v))
 rw[List.length_map]at this
 rw[this]
 split<;>simp
theorem putPs_nd{bs:List Seen}{n k:Int}:∀{l:List Cell} {pl:List (Pl×Sta)},(pl.map (·.1)).Nodup→((putPs bs n k pl l).map (·.1)).Nodup∧(putPs bs n k pl l).length≤pl.length+l.length
 |[],pl,h=>⟨h,Nat.le_refl _⟩
 |c::r,pl,h=>by
  have h1:((putP bs n k pl c).map (·.1)).Nodup∧(putP bs n k pl c).length≤pl.length+1:=by
   unfold putP
   split
   ·exact⟨putM_nd h,putM_len⟩
   ·exact⟨h,by omega⟩
  obtain⟨h2,h3⟩:=putPs_nd (bs:=bs) (n:=n) (k:=k) (l:=r) h1.1
  refine⟨h2,?_⟩
  have:(putPs bs n k pl (c::r))=putPs bs n k (putP bs n k pl c) r:=rfl
  rw[this,List.length_cons]
  omega
theorem StoV.commit{st:Sto}{b:Bt}(h:StoV st)(hb:BtOk st b)(ht:∀x∈st.batches,x.token≠b.token)(h1:st.batches.length<1000)(h2:st.places.length+b.changes.length≤4000)(h3:st.use+b.weight≤100000):StoV (st.commit b):=by
 obtain⟨x,hx,hall⟩:=hb.arr
 have hnd:=putPs_nd (bs:=st.batches++[b.seen]) (n:=(st.batches.length+1:Nat)) (k:=findA_ st.arrays b.array) (l:=b.changes) h.keys
 refine⟨h.a1,h.an,h.nms,h.nd,h.sch,h.cel,?_,?_,?_,?_,?_,hnd.1,?_,h3⟩
 ·show(st.batches++[b.seen]).length≤1000
  simp;omega
 ·intro y hy
  rcases List.mem_append.1 (show y∈st.batches++[b.seen] from hy) with hy|hy
  ·exact h.bat y hy
  ·simp at hy
   subst hy
   exact⟨hb.tok,hb.s0,hb.s1⟩
 ·show((st.batches++[b.seen]).map (·.token)).Nodup
  rw[List.map_append,List.nodup_append]
  refine⟨h.toks,by simp,fun t ht' u hu=>?_⟩
  obtain⟨y,hy,rfl⟩:=List.mem_map.1 ht'
  simp at hu
  subst hu
  exact ht y hy
 ·have:=hnd.2
  show(putPs _ _ _ _ _).length≤4000
  omega
 ·intro p hp
  have hl:(st.commit b).batches.length=st.batches.length+1:=by show(st.batches++[b.seen]).length=_;simp
  rw[hl]
  rcases putPs_mem (show p∈putPs (st.batches++[b.seen]) (st.batches.length+1:Nat) (findA_ st.arrays b.array) st.places b.changes from hp) with ⟨c,hc,rfl⟩|hp
  ·obtain⟨c1,c2,c3,c4⟩:=changeE_ok (hall c hc)
   exact⟨hb.k0,⟨x,hx,⟨c.at_,c1,c2,rfl⟩,c3,c4⟩,by show(0:Int)≤((st.batches.length+1:Nat):Int);omega,by show((st.batches.length+1:Nat):Int)≤((st.batches.length+1:Nat):Int);omega⟩
  ·obtain⟨p1,p2,p3,p4⟩:=h.pls p hp
   exact⟨p1,p2,p3,by omega⟩
 ·show 0≤st.use+b.weight
  have:=h.u0
  unfold Bt.weight
  omega
end Go.Vc
namespace Go.Vc
open Go Go.Proofs
structure DkS (k:Dk) (num:Int) (nxt:Nat) (arrays:List Nm) (bs:List Seen) (ps:List (Pl×Sta)) (bt:List Bt):Prop where
 cl:Cl k
 n2:10≤k.n
 num0:0<num
 num1:num<1000000
 note:NoteIs k.now num
 log:LogL k.now (k.base num) k.half 0 ((1,encBase arrays bs ps)::bt.map fun b=>(2,encB arrays b)) nxt
 pend:k.pend=[]
theorem DkS.format{k:Dk}(h:Cl k)(hn:10≤k.n){arrays:List Nm}{ps:List (Pl×Sta)}(hfit:secsOf (encBase arrays [] ps)<k.half)(hl:(encBase arrays [] ps).length<16777216):
 (k.fmt (encBase arrays [] ps)).1=0∧DkS (k.fmt (encBase arrays [] ps)).2 1 (0+1+secsOf (encBase arrays [] ps)) arrays [] ps []∧(k.fmt (encBase arrays [] ps)).2.n=k.n∧(k.fmt (encBase arrays [] ps)).2.st=k.st∧
  AddOk k.zero.2 1 0 1 (encBase arrays [] ps)∧(k.zero.2.add 1 0 1 (encBase arrays [] ps)).2.pend=[]:=by
 obtain⟨z1,z2,z3,z4,z5,z6⟩:=h.zero
 have hh:k.zero.2.half=k.half:=Dk.half_n z3
 have hb:k.zero.2.base 1=k.base 1:=Dk.base_n z3 1
 generalize hB:encBase arrays [] ps=B at *
 obtain⟨a1,a2,a3,a4,a5,a6,a7,a8,a9⟩:=z2.add (num:=1) (nxt:=0) (q:=1) (b:=B) (by omega) (by omega) (by rw[hh];omega)
 obtain⟨t1,t2,t3,t4,t5,t6,t7⟩:=a2.note (num:=1) (by rw[a3,z3];omega)
 have e:k.fmt B=(k.zero.2.add 1 0 1 B).2.note 1:=by unfold Dk.fmt;rw[if_neg (by simp[z1]),if_neg (by simp[a1])]
 rw[hb]at a5 a6 a7
 have e1:((1:Int)%2).toNat=1:=rfl
 rw[e1]at t5 t6
 have hbase:2≤k.base 1:=by unfold Dk.base;omega
 have hbh:k.base 1+k.half≤k.n:=by
  unfold Dk.base
  unfold Dk.half Dk.secs
  rw[e1];omega
 have hn':(k.fmt B).2.n=k.n:=by rw[e];exact t3.trans (a3.trans z3)
 have hbf:(k.fmt B).2.base 1=k.base 1:=Dk.base_n hn' 1
 have hhf:(k.fmt B).2.half=k.half:=Dk.half_n hn'
 refine⟨by rw[e];exact t1,⟨by rw[e];exact t2,by rw[hn'];exact hn,by omega,by omega,?_,?_,by rw[e];exact t7⟩,hn',by rw[e];exact t4.trans (a4.trans z4),a9 (by rw[z6];simp),a8⟩
 ·rw[e]
  refine⟨t5,.inl ?_⟩
  rw[e1,t6 _ (by omega),a7 _ (.inl (by omega)),z5 _ (by omega)]
 ·rw[hbf,hhf,hB]
  refine⟨⟨?_,fun j hj=>?_⟩,by dsimp only;omega,hl,rfl,fun j h1 h2=>?_⟩
  ·rw[e,t6 _ (by omega)];exact a5
  ·rw[e,t6 _ (by omega)]
   exact a6 j hj
  ·rw[e,t6 _ (by omega),a7 _ (.inr (by dsimp only at h1;omega)),z5 _ (by omega)]
end Go.Vc
namespace Go.Vc
open Go Go.Proofs
theorem LogL.half_le{l:List Int}{base half:Nat}:∀{rs:List (Int×List Int)} {i e:Nat},LogL l base half i rs e→rs≠[]→e≤half
 |[],_,_,_,h=>absurd rfl h
 |q::r,i,e,h,_=>by
  obtain⟨_,h2,_,h4⟩:=h
  cases r with
  |nil=>rw[h4.1];omega
  |cons p r=>exact h4.half_le (by simp)
theorem DkS.add{k:Dk}{num:Int}{nxt:Nat}{arrays:List Nm}{bs:List Seen}{ps:List (Pl×Sta)}{bt:List Bt}(h:DkS k num nxt arrays bs ps bt){b:Bt}(hfit:nxt+secsOf (encB arrays b)<k.half)(hl:(encB arrays b).length<16777216):
 (k.add num nxt 2 (encB arrays b)).1=0∧DkS (k.add num nxt 2 (encB arrays b)).2 num (nxt+1+secsOf (encB arrays b)) arrays bs ps (bt++[b])∧(k.add num nxt 2 (encB arrays b)).2.n=k.n∧(k.add num nxt 2 (encB arrays b)).2.st=k.st∧AddOk k num nxt 2 (encB arrays b):=by
 have hn2:=h.n2
 have hnum:=h.num0
 obtain⟨a1,a2,a3,a4,a5,a6,a7,a8,a9⟩:=h.cl.add (num:=num) (nxt:=nxt) (q:=2) (b:=encB arrays b) (by omega) (by omega) hfit
 have hb:(k.add num nxt 2 (encB arrays b)).2.base num=k.base num:=Dk.base_n a3 num
 have hh:(k.add num nxt 2 (encB arrays b)).2.half=k.half:=Dk.half_n a3
 have hbase:2≤k.base num:=by unfold Dk.base;omega
 refine⟨a1,⟨a2,by rw[a3];exact hn2,hnum,h.num1,?_,?_,a8⟩,a3,a4,a9 (by rw[h.pend];simp)⟩
 ·have h2:(num%2).toNat≤1:=by omega
  refine⟨by rw[a7 _ (.inl (by omega))];exact h.note.1,?_⟩
  rw[a7 _ (.inl (by omega))]
  exact h.note.2
 ·rw[hb,hh,List.map_append]
  have:=h.log.snoc (q:=(2,encB arrays b)) (l':=(k.add num nxt 2 (encB arrays b)).2.now) ⟨a5,a6⟩ hfit hl fun j hj=>a7 j (by dsimp only at hj;omega)
  exact this
end Go.Vc
namespace Go.Vc
open Go Go.Proofs
theorem DkS.cmp{k:Dk}{num:Int}{nxt:Nat}{arrays arrays':List Nm}{bs bs':List Seen}{ps ps':List (Pl×Sta)}{bt:List Bt}(h:DkS k num nxt arrays bs ps bt)(hnum1:num+1<1000000)(hfit:secsOf (encBase arrays' bs' ps')<k.half)(hl:(encBase arrays' bs' ps').length<16777216)(hk:k.n≤2048):
 (k.clear (num+1) 0).1=0∧((k.clear (num+1) 0).2.add (num+1) 0 1 (encBase arrays' bs' ps')).1=0∧(((k.clear (num+1) 0).2.add (num+1) 0 1 (encBase arrays' bs' ps')).2.note (num+1)).1=0∧
 DkS (((k.clear (num+1) 0).2.add (num+1) 0 1 (encBase arrays' bs' ps')).2.note (num+1)).2 (num+1) (0+1+secsOf (encBase arrays' bs' ps')) arrays' bs' ps' []∧
 (((k.clear (num+1) 0).2.add (num+1) 0 1 (encBase arrays' bs' ps')).2.note (num+1)).2.n=k.n∧(((k.clear (num+1) 0).2.add (num+1) 0 1 (encBase arrays' bs' ps')).2.note (num+1)).2.st=k.st∧
 AddOk (k.clear (num+1) 0).2 (num+1) 0 1 (encBase arrays' bs' ps')∧((k.clear (num+1) 0).2.add (num+1) 0 1 (encBase arrays' bs' ps')).2.pend=[]:=by
 have hn2:=h.n2
 have hnum:=h.num0
 generalize hB:encBase arrays' bs' ps'=B at *
 obtain⟨c1,c2,c3,c4,c5,c6,c7⟩:=h.cl.clear (num:=num+1) (by omega) (by omega) (i:=0) (by omega)
 generalize hK1:(k.clear (num+1) 0).2=k1 at *
 have hh1:k1.half=k.half:=Dk.half_n c3
 have hb1:k1.base (num+1)=k.base (num+1):=Dk.base_n c3 _
 have hhl:=k.half_le
 obtain⟨a1,a2,a3,a4,a5,a6,a7,a8,a9⟩:=c2.add (num:=num+1) (nxt:=0) (q:=1) (b:=B) (by omega) (by omega) (by rw[hh1];omega)
 generalize hK2:(k1.add (num+1) 0 1 B).2=k2 at *
 obtain⟨t1,t2,t3,t4,t5,t6,t7⟩:=a2.note (num:=num+1) (by rw[a3,c3];omega)
 generalize hK3:(k2.note (num+1)).2=k3 at *
 have hn3:k3.n=k.n:=t3.trans (a3.trans c3)
 have hb3:k3.base (num+1)=k.base (num+1):=Dk.base_n hn3 _
 have hh3:k3.half=k.half:=Dk.half_n hn3
 have hbase:2≤k.base (num+1):=by unfold Dk.base;omega
 rw[hb1]at a5 a6 a7
 have hpar:((num+1)%2).toNat=1 - (num%2).toNat∧1 - ((num+1)%2).toNat=(num%2).toNat∧(num%2).toNat≤1:=by omega
 refine⟨c1,a1,t1,⟨t2,by rw[hn3];exact hn2,by omega,hnum1,?_,?_,t7⟩,hn3,t4.trans (a4.trans c4),a9 (by rw[h.pend]at c7;simp at c7;omega),a8⟩
 ·refine⟨t5,.inr ⟨num,by omega,by omega,?_⟩⟩
  rw[hpar.2.1,t6 _ (by omega),a7 _ (.inl (by omega)),c6 _ (.inl (by omega))]
  exact h.note.1
 ·rw[hb3,hh3,hB]
  refine⟨⟨?_,fun j hj=>?_⟩,by dsimp only;omega,hl,rfl,fun j h1 h2=>?_⟩
  ·rw[t6 _ (by omega)];exact a5
  ·rw[t6 _ (by omega)]
   exact a6 j hj
  ·rw[t6 _ (by omega),a7 _ (.inr (by dsimp only at h1;omega))]
   exact c5 j (by omega) h2
end Go.Vc
namespace Go.Vc
open Go Go.Proofs
theorem DkS.opened{k:Dk}{num:Int}{nxt:Nat}{arrays:List Nm}{bs:List Seen}{ps:List (Pl×Sta)}{bt:List Bt}(h:DkS k num nxt arrays bs ps bt):
 k.newest=num∧Recs k num 0 ((1,encBase arrays bs ps)::bt.map fun b=>(2,encB arrays b)) nxt∧(k.clear num nxt).1=0∧(k.clear num nxt).2.st=k.st∧(k.clear num nxt).2.n=k.n∧(∀st',DkS { (k.clear num nxt).2 with st:=st' } num nxt arrays bs ps bt):=by
 have hn2:=h.n2
 have hnum:=h.num0
 have hnx:=h.log.half_le (by simp)
 have hnew:=newest_eq h.num0 (by have:=h.num1;omega) h.note
 have hrec:=h.log.recs h.cl.on (by omega) (by omega)
 have hz:∀{rs:List (Int×List Int)} {i e:Nat},LogL k.now (k.base num) k.half i rs e→∀j,e≤j→j<k.half→secOf k.now (k.base num+j)=zeros:=by
  intro rs
  induction rs with
  |nil=>intro i e hl j h1 h2;obtain⟨rfl,hz⟩:=hl;exact hz j h1 h2
  |cons q r ih=>intro i e hl j h1 h2;exact ih hl.2.2.2 j h1 h2
 have hz:=hz h.log
 have hcl:∀(f i:Nat),nxt≤i→i+f≤k.half→Dk.clearL num f i false k=(0,k):=by
  intro f
  induction f with
  |zero=>intro i _ _;rw[Dk.clearL];rfl
  |succ f ih =>
   intro i h1 h2
   have hle:=Cl.base_le (k:=k) (num:=num) (by omega) (by omega) (i:=i) (by omega)
   rw[Dk.clearL,if_neg (by rw[h.cl.readE hle];simp),hz i h1 (by omega),if_neg (by decide)]
   exact ih (i+1) (by omega) (by omega)
 have e:k.clear num nxt=(0,k):=hcl _ _ (Nat.le_refl _) (by omega)
 rw[e]
 exact⟨hnew,hrec,rfl,rfl,rfl,fun st'=>⟨⟨h.cl.on,h.cl.fu,h.cl.len⟩,h.n2,h.num0,h.num1,h.note,h.log,h.pend⟩⟩
end Go.Vc
namespace Go.Vc
open Go Go.Proofs
open Go.Value Go.Ending Go.IntKind
set_option maxRecDepth 100000
theorem lnum_vc{n:Int}{w:World}{R:Ending→World→Prop}
 (h :
 ∀k1,w.heap.size≤k1→
 ∀w1,KpL [] w w1→
 Hb w1 k1 #[int i64 2,int i64 n,int i64 1,string (ByteArray.mk #[])] 161→
 R (returned (slice (some (Addr.mk k1 0 none)) 1 1)) w1):Calls Tryz.prog 91 #[int i64 n] w R :=
 fnc0 (an:={}) (args:=[.a (.c (.v (.int .i64 n)))]) Tryz_ok Tryz.func91 (by kernel_rfl) rfl rfl h
theorem lnum2_vc{n:Int}{w:World}{R:Ending→World→Prop}
 (h :
 ∀k1,w.heap.size≤k1→
 ∀w1,KpL [] w w1→
 Hb w1 k1 #[int i64 2,int i64 n,int i64 1,string (ByteArray.mk #[])] 161→
 R (returned (slice (some (Addr.mk k1 0 none)) 1 1)) w1):Calls Tryz.prog 149 #[int i64 n] w R :=
 fnc0 (an:={}) (args:=[.a (.c (.v (.int .i64 n)))]) Tryz_ok Tryz.func149 (by kernel_rfl) rfl rfl h
theorem lbatch_vc{t:ByteArray}{n:Int}{ca:Option Addr}{cn cc:Nat}{w:World}{R:Ending→World→Prop}
 (h :
 ∀k1,w.heap.size≤k1→
 ∀w1,KpL [] w w1→
 R (returned (agg #[string t,int i64 n,string (ByteArray.mk #[116]),slice ca cn cc])) w1):Calls Tryz.prog 25 #[string t,int i64 n,slice ca cn cc] w R :=
 fnc0 (an:={}) (args:=[.a (.c (.v (.string t))),.a (.c (.v (.int .i64 n))),.a (.c (.v (.slice ca cn cc)))]) Tryz_ok Tryz.func25 (by kernel_rfl) rfl rfl h
theorem lat_vc{x:Int}{y:Int}{na:Option Addr}{nn nc:Nat}{w:World}{R:Ending→World→Prop}
 (h :
 ∀k1,w.heap.size≤k1→
 ∀k2,w.heap.size≤k2→
 ∀k3,w.heap.size≤k3→
 ((0:Int)<(↑nn:Int)→
 ∃d1,na=some d1∧
 (0:Int)≤(0:Int)∧
 (0:Int)<(↑nn:Int)∧
 ∃n1,LdA w (d1.add (Int.toNat 0*1)) [int i64 n1]∧
 ∀w1,KpL [] w w1→
 Hb w1 k3 #[slice (some (Addr.mk k2 0 none)) 2 2,slice none 0 0] 81∧
 Hb w1 k2 #[int i64 x,int i64 y] 3∧
 Hb w1 k1 #[slice none 0 0,slice none 0 0] 81→
 CallW Tryz.prog 91 #[int i64 n1] w1 fun e1 w2 =>
 ∃a1 k4 k5,e1=returned (slice a1 k4 k5)∧
 KpL [] w1 w2∧
 ∀w3,KpL [k1,k3] w2 w3→
 Hb w3 k3 #[slice (some (Addr.mk k2 0 none)) 2 2,slice a1 k4 k5] 81∧
 Hb w3 k2 #[int i64 x,int i64 y] 3∧
 Hb w3 k1 #[slice (some (Addr.mk k2 0 none)) 2 2,slice a1 k4 k5] 81→
 R (returned (agg #[slice (some (Addr.mk k2 0 none)) 2 2,slice a1 k4 k5])) w3)∧
 (¬(0:Int)<(↑nn:Int)→
 ∀w4,KpL [] w w4→
 Hb w4 k3 #[slice (some (Addr.mk k2 0 none)) 2 2,slice none 0 0] 81∧
 Hb w4 k2 #[int i64 x,int i64 y] 3∧
 Hb w4 k1 #[slice (some (Addr.mk k2 0 none)) 2 2,slice none 0 0] 81→
 R (returned (agg #[slice (some (Addr.mk k2 0 none)) 2 2,slice none 0 0])) w4)):Calls Tryz.prog 26 #[int i64 x,int i64 y,slice na nn nc] w R :=
 fnc0 (an:={ all:=true }) (args:=[.a (.c (.v (.int .i64 x))),.a (.c (.v (.int .i64 y))),.a (.c (.v (.slice na nn nc)))]) Tryz_ok Tryz.func26 (by kernel_rfl) rfl rfl h
theorem lput_vc{s:Nat}{tok:ByteArray}{stp:Int}{arn:ByteArray}{ca:Option Addr}{cn cc:Nat}{w:World}{R:Ending→World→Prop}
 (h :
 ∀k1,w.heap.size≤k1→
 ∀w1,KpL [] w w1→
 CallW Tryz.prog 13 (#[pointer (some (Addr.mk s 0 none)),agg #[string tok,int i64 stp,string arn,slice ca cn cc]]) w1 fun e1 w2 =>
 ∃b1 n1,e1=returned (tuple #[Value.bool b1,int i64 n1])∧
 ∃l1,KpL l1 w1 w2∧
 NotIn k1 l1∧
 (b1=true→
 R (returned (Value.bool (decide (n1=0)))) w2)∧
 (b1=false→
 R (returned (Value.bool false)) w2)):Calls Tryz.prog 27 #[pointer (some (Addr.mk s 0 none)),agg #[string tok,int i64 stp,string arn,slice ca cn cc]] w R :=
 fnc0 (an:={ muts:=[13] }) (args:=[.a (.c (.v (.pointer (some ⟨s,0,none⟩)))),.a (.agg [.v (.string tok),.v (.int .i64 stp),.v (.string arn),.v (.slice ca cn cc)])]) Tryz_ok Tryz.func27 (by kernel_rfl) rfl rfl h
theorem lArray_vc{u:Nat}{w:World}{R:Ending→World→Prop}
 (h :
 ∀k1,w.heap.size≤k1→
 ∀k2,w.heap.size≤k2→
 ∀k3,w.heap.size≤k3→
 ∀k4,w.heap.size≤k4→
 FuncOk Tryz.prog 149∧
 ∀w1,KpL [] w w1→
 Hb w1 k4 #[int i64 0,int i64 0] 3∧
 Hb w1 k3 #[string (ByteArray.mk #[118]),int i64 2] 156∧
 Hb w1 k2 #[string (ByteArray.mk #[120]),int i64 0,int i64 3,string (ByteArray.mk #[121]),int i64 0,int i64 1] 153∧
 Hb w1 k1 #[slice none 0 0,slice none 0 0,slice none 0 0] 58→
 CallW Tryz.prog 149 #[int i64 5] w1 fun e1 w2 =>
 ∃a1 k5 k6,e1=returned (slice a1 k5 k6)∧
 ∃l1,KpL l1 w1 w2∧
 (NotIn k4 l1∧
 NotIn k3 l1∧
 NotIn k2 l1∧
 NotIn k1 l1)∧
 ∀k7,w2.heap.size≤k7→
 FuncOk Tryz.prog 149∧
 ∀w3,KpL [] w2 w3→
 Hb w3 k7 #[int i64 1,int i64 0] 3∧
 Hb w3 k4 #[int i64 0,int i64 0] 3∧
 Hb w3 k3 #[string (ByteArray.mk #[118]),int i64 2] 156∧
 Hb w3 k2 #[string (ByteArray.mk #[120]),int i64 0,int i64 3,string (ByteArray.mk #[121]),int i64 0,int i64 1] 153∧
 Hb w3 k1 #[slice none 0 0,slice none 0 0,slice none 0 0] 58→
 CallW Tryz.prog 149 #[int i64 7] w3 fun e2 w4 =>
 ∃a2 k8 k9,e2=returned (slice a2 k8 k9)∧
 ∃l2,KpL l2 w3 w4∧
 (NotIn k7 l2∧
 NotIn k4 l2∧
 NotIn k3 l2∧
 NotIn k2 l2∧
 NotIn k1 l2)∧
 ∀k10,w4.heap.size≤k10→
 ∀k11,w4.heap.size≤k11→
 ∀k12,w4.heap.size≤k12→
 FuncOk Tryz.prog 149∧
 ∀w5,KpL [] w4 w5→
 Hb w5 k12 #[int i64 3,int i64 1] 3∧
 Hb w5 k11 #[int i64 0,int i64 1,int i64 0,string (ByteArray.mk #[])] 161∧
 Hb w5 k10 #[int i64 1,int i64 1] 3∧
 Hb w5 k7 #[int i64 1,int i64 0] 3∧
 Hb w5 k4 #[int i64 0,int i64 0] 3∧
 Hb w5 k3 #[string (ByteArray.mk #[118]),int i64 2] 156∧
 Hb w5 k2 #[string (ByteArray.mk #[120]),int i64 0,int i64 3,string (ByteArray.mk #[121]),int i64 0,int i64 1] 153∧
 Hb w5 k1 #[slice none 0 0,slice none 0 0,slice none 0 0] 58→
 CallW Tryz.prog 149 #[int i64 2] w5 fun e3 w6 =>
 ∃a3 k13 k14,e3=returned (slice a3 k13 k14)∧
 ∃l3,KpL l3 w5 w6∧
 (NotIn k12 l3∧
 NotIn k11 l3∧
 NotIn k10 l3∧
 NotIn k7 l3∧
 NotIn k4 l3∧
 NotIn k3 l3∧
 NotIn k2 l3∧
 NotIn k1 l3)∧
 ∀k15,w6.heap.size≤k15→
 ∀w7,KpL [k1] w6 w7→
 Hb w7 k15 #[slice (some (Addr.mk k4 0 none)) 2 2,slice a1 k5 k6,slice (some (Addr.mk k7 0 none)) 2 2,slice a2 k8 k9,slice (some (Addr.mk k10 0 none)) 2 2,slice (some (Addr.mk k11 0 none)) 1 1,slice (some (Addr.mk k12 0 none)) 2 2,slice a3 k13 k14] 147∧
 Hb w7 k12 #[int i64 3,int i64 1] 3∧
 Hb w7 k11 #[int i64 0,int i64 1,int i64 0,string (ByteArray.mk #[])] 161∧
 Hb w7 k10 #[int i64 1,int i64 1] 3∧
 Hb w7 k7 #[int i64 1,int i64 0] 3∧
 Hb w7 k4 #[int i64 0,int i64 0] 3∧
 Hb w7 k3 #[string (ByteArray.mk #[118]),int i64 2] 156∧
 Hb w7 k2 #[string (ByteArray.mk #[120]),int i64 0,int i64 3,string (ByteArray.mk #[121]),int i64 0,int i64 1] 153∧
 Hb w7 k1 #[slice (some (Addr.mk k2 0 none)) 2 2,slice (some (Addr.mk k3 0 none)) 1 1,slice (some (Addr.mk k15 0 none)) 4 4] 58→
 R (returned (agg #[slice (some (Addr.mk k2 0 none)) 2 2,slice (some (Addr.mk k3 0 none)) 1 1,slice (some (Addr.mk k15 0 none)) 4 4])) w7):Calls Tryz.prog 96 #[] w R :=
 fnc0 (an:={ all:=true }) (args:=[]) Tryz_ok Tryz.func96 (by kernel_rfl) rfl rfl h
theorem lexample_vc{u:Nat}{w:World}{R:Ending→World→Prop}
 (h :
 CallW Tryz.prog 96 #[] w fun e1 w1 =>
 ∃a1 k1 k2 a2 k3 k4 a3 k5 k6,e1=returned (agg #[slice a1 k1 k2,slice a2 k3 k4,slice a3 k5 k6])∧
 KpL [] w w1∧
 ∀k7,w1.heap.size≤k7→
 ∀k8,w1.heap.size≤k8→
 ∀w2,KpL [] w1 w2→
 Hb w2 k8 #[string (ByteArray.mk #[116]),slice a1 k1 k2,slice a2 k3 k4,slice none 0 0] 60→
 R (returned (slice (some (Addr.mk k8 0 none)) 1 1)) w2):Calls Tryz.prog 36 #[] w R :=
 fnc0 (an:={}) (args:=[]) Tryz_ok Tryz.func36 (by kernel_rfl) rfl rfl h
end Go.Vc
namespace Go.Vc
open Go Go.Proofs
def vNum(n:Int):Vl:=⟨2,n,1,ByteArray.empty⟩
theorem one_R{α:Type}{t:Ty α}{w:World}{k T:Nat}{cs:List Value}{x:α}{M:List Nat}(hk:w.heap[k]?=some (.cells cs.toArray T (0,0)))(hkM:k∉M)(hx:R t M w x cs):R (tSl t) M w [x] [.slice (some ⟨k,0,none⟩) 1 1]:=by
 refine⟨_,_,rfl,Nat.le_refl _,by show(1:Nat)≤140737488355328;omega,fun _=>⟨k,0,_,T,_,rfl,⟨block_lt hk,hkM⟩,hk,fun j y hy=>?_⟩⟩
 cases j with
 |succ j=>simp at hy
 |zero =>
  simp at hy
  subst hy
  refine⟨_,hx,fun t' v hv=>?_⟩
  simpa using hv
theorem lnum_ok{M:List Nat}{w:World}(hM:∀b∈M,b<w.heap.size){n:Int}(hn:InI .i64 n):Calls Tryz.prog 91 #[.int .i64 n] w fun e w'=>∃a c m,e=.returned (.slice a m c)∧KpL [] w w'∧R (tSl tVal) M w' [vNum n] [.slice a m c] :=
 lnum_vc fun k1 hk1 w1 hw1 hkn=>⟨_,_,_,rfl,hw1,one_R (t:=tVal) (x:=vNum n) hkn (fun hm=>by have:=hM k1 hm;omega) ⟨rfl,ini_i64.2 (by simp[vNum]),hn,ini_i64.2 (by simp[vNum]),by simp[vNum]⟩⟩
theorem lbatch_ok(w:World)(t:ByteArray)(n:Int)(a:Option Addr)(m c:Nat):Calls Tryz.prog 25 #[.string t,.int .i64 n,.slice a m c] w (PureR (.agg #[.string t,.int .i64 n,.string ⟨#[116]⟩,.slice a m c]) w) :=
 lbatch_vc fun _ _ w1 hw1=>⟨rfl,hw1⟩
end Go.Vc
namespace Go.Vc
open Go Go.Proofs
theorem two_R{k:IntKind}{w:World}{b T:Nat}{x y:Int}{M:List Nat}(hk:w.heap[b]?=some (.cells #[.int k x,.int k y] T (0,0)))(hkM:b∉M)(hx:InI k x)(hy:InI k y):R (tSl (tI k)) M w [x,y] [.slice (some ⟨b,0,none⟩) 2 2]:=by
 refine⟨_,_,rfl,Nat.le_refl _,by show(2:Nat)≤140737488355328;omega,fun _=>⟨b,0,_,T,_,rfl,⟨block_lt hk,hkM⟩,hk,fun j z hz=>?_⟩⟩
 match j,hz with
 |0,hz =>
  simp at hz
  subst hz
  refine⟨_,⟨rfl,hx⟩,fun t v hv=>?_⟩
  match t,hv with
  |0,hv=>simpa using hv
  |t+1,hv=>simp at hv
 |1,hz =>
  simp at hz
  subst hz
  refine⟨_,⟨rfl,hy⟩,fun t v hv=>?_⟩
  match t,hv with
  |0,hv=>simpa[tI]using hv
  |t+1,hv=>simp at hv
 |j+2,hz=>simp at hz
theorem lat_ok{M Mn:List Nat}{w:World}(hM:∀b∈M,b<w.heap.size){x y:Int}{ns:List Int}{a:Option Addr}{n c:Nat}(hx:InI .i64 x)(hy:InI .i64 y)(hn:R (tSl (tI .i64)) Mn w ns [.slice a n c]):
 Calls Tryz.prog 26 #[.int .i64 x,.int .i64 y,.slice a n c] w fun e w'=>∃a1 n1 c1 a2 n2 c2,e=.returned (.agg #[.slice a1 n1 c1,.slice a2 n2 c2])∧KpL [] w w'∧R tCell M w' ⟨[x,y],(ns.take 1).map vNum⟩ [.slice a1 n1 c1,.slice a2 n2 c2]:=by
 obtain⟨rfl,_,_⟩:=hn.sl_len
 refine lat_vc fun k1 hk1 k2 hk2 k3 hk3=>⟨fun hpos=>?_,fun hz w4 hw4 hkn4=>?_⟩
 ·have h0:0<ns.length:=by omega
  obtain⟨ad,cs,rfl,hv1,hld,_,_⟩:=hn.sl_get h0
  obtain⟨rfl,hin⟩:=hv1.intD
  refine⟨ad,rfl,by omega,hpos,_,hld,fun w1 hw1 hkn1=>?_⟩
  have b1:=block_lt hkn1.2.2
  have b2:=block_lt hkn1.2.1
  have b3:=block_lt hkn1.1
  refine⟨(lnum_ok (M:=k1::k2::k3::M) (fun b hb=>?_) hin).mono ?_⟩
  ·simp only[List.mem_cons]at hb
   rcases hb with rfl|rfl|rfl|hb
   ·omega
   ·omega
   ·omega
   ·have:=hM b hb;have:=hw1.size;omega
  rintro e w2 ⟨a1,c1,m1,rfl,hw2,hR⟩
  refine⟨_,_,_,rfl,hw2,fun w3 hw3 hkn3=>⟨_,_,_,_,_,_,rfl,(hw1.trans hw2).more hw3 (by simp;omega),R.mkCell (two_R hkn3.2.1 (fun hm=>by have:=hM k2 hm;omega) hx hy) ?_⟩⟩
  have e1:(ns.take 1).map vNum=[vNum ns[0]]:=by
   cases ns with
   |nil=>simp at h0
   |cons z r=>simp
  dsimp only
  rw[e1]
  exact(hR.kp hw3 (by simp)).weak fun b hb=>by simp[hb]
 ·have h0:ns=[]:=List.eq_nil_of_length_eq_zero (by omega)
  subst h0
  exact⟨_,_,_,_,_,_,rfl,hw4,R.mkCell (two_R hkn4.2.1 (fun hm=>by have:=hM k2 hm;omega) hx hy) (R.sl_nil _ _ _ _ _)⟩
end Go.Vc
namespace Go.Vc
open Go Go.Proofs
theorem pair_R{α:Type}{t:Ty α}{w:World}{b T:Nat}{c1 c2:List Value}{x y:α}{M:List Nat}(hk:w.heap[b]?=some (.cells (c1++c2).toArray T (0,0)))(hkM:b∉M)(h1:R t M w x c1)(h2:R t M w y c2):R (tSl t) M w [x,y] [.slice (some ⟨b,0,none⟩) 2 2]:=by
 have l1:c1.length=t.sz:=t.len h1
 refine⟨_,_,rfl,Nat.le_refl _,by show(2:Nat)≤140737488355328;omega,fun _=>⟨b,0,_,T,_,rfl,⟨block_lt hk,hkM⟩,hk,fun j z hz=>?_⟩⟩
 match j,hz with
 |0,hz =>
  simp at hz
  subst hz
  refine⟨_,h1,fun i v hv=>?_⟩
  have hi:i<c1.length:=(List.getElem?_eq_some_iff.1 hv).1
  simp only[List.toList_toArray,Nat.zero_mul,Nat.zero_add]
  rw[List.getElem?_append_left hi]
  exact hv
 |1,hz =>
  simp at hz
  subst hz
  refine⟨_,h2,fun i v hv=>?_⟩
  simp only[List.toList_toArray,Nat.one_mul,Nat.zero_add]
  rw[List.getElem?_append_right (by omega),l1,Nat.add_sub_cancel_left]
  exact hv
 |j+2,hz=>simp at hz
def exDims:List Dim:=[⟨⟨#[120]⟩,0,3⟩,⟨⟨#[121]⟩,0,1⟩]
def exAttrs:List Attr:=[⟨⟨#[118]⟩,2⟩]
def exNm:Nm:=⟨⟨#[116]⟩,⟨exDims,exAttrs,[]⟩⟩
theorem lArray_ok{M:List Nat}{w:World}(hM:∀b∈M,b<w.heap.size):Calls Tryz.prog 96 #[] w fun e w'=>∃a1 n1 c1 a2 n2 c2 a3 n3 c3,e=.returned (.agg #[.slice a1 n1 c1,.slice a2 n2 c2,.slice a3 n3 c3])∧KpL [] w w'∧R (tSl tDim) M w' exDims [.slice a1 n1 c1]∧R (tSl tAttr) M w' exAttrs [.slice a2 n2 c2]:=by
 have fo:FuncOk Tryz.prog 149:=⟨_,_,Tryz.func149,rfl⟩
 have nm:∀(n:Int) (w:World),Calls Tryz.prog 149 #[.int .i64 n] w fun e w'=>∃a c m,e=.returned (.slice a m c)∧KpL [] w w':=fun n w=>lnum2_vc fun k1 hk1 w1 hw1 hkn=>⟨_,_,_,rfl,hw1⟩
 refine lArray_vc (u:=0) fun k1 hk1 k2 hk2 k3 hk3 k4 hk4=>⟨fo,fun w1 hw1 hkn1=>⟨(nm 5 w1).mono ?_⟩⟩
 rintro e w2 ⟨a1,c1,m1,rfl,hw2⟩
 refine⟨_,_,_,rfl,[],hw2,⟨⟨by simp⟩,⟨by simp⟩,⟨by simp⟩,⟨by simp⟩⟩,fun k7 hk7=>⟨fo,fun w3 hw3 hkn3=>⟨(nm 7 w3).mono ?_⟩⟩⟩
 rintro e w4 ⟨a2,c2,m2,rfl,hw4⟩
 refine⟨_,_,_,rfl,[],hw4,⟨⟨by simp⟩,⟨by simp⟩,⟨by simp⟩,⟨by simp⟩,⟨by simp⟩⟩,fun k10 hk10 k11 hk11 k12 hk12=>⟨fo,fun w5 hw5 hkn5=>⟨(nm 2 w5).mono ?_⟩⟩⟩
 rintro e w6 ⟨a3,c3,m3,rfl,hw6⟩
 refine⟨_,_,_,rfl,[],hw6,⟨⟨by simp⟩,⟨by simp⟩,⟨by simp⟩,⟨by simp⟩,⟨by simp⟩,⟨by simp⟩,⟨by simp⟩,⟨by simp⟩⟩,fun k15 hk15 w7 hw7 hkn7=>?_⟩
 obtain⟨_,_,_,_,_,_,q3,q2,_⟩:=hkn7
 have no:∀k,w.heap.size≤k→k∉M:=fun k hk hm=>by have:=hM k hm;omega
 refine⟨_,_,_,_,_,_,_,_,_,rfl,?_,?_,?_⟩
 ·exact(((((hw1.trans hw2).trans hw3).trans hw4).trans hw5).trans hw6).more hw7 (by simp;omega)
 ·exact pair_R (t:=tDim) (c1:=[_,_,_]) (c2:=[_,_,_]) q2 (no k2 hk2) ⟨rfl,by show(1:Nat)≤140737488355328;omega,ini_i64.2 (by dsimp only;omega),ini_i64.2 (by dsimp only;omega)⟩ ⟨rfl,by show(1:Nat)≤140737488355328;omega,ini_i64.2 (by dsimp only;omega),ini_i64.2 (by dsimp only;omega)⟩
 ·exact one_R (t:=tAttr) (cs:=[_,_]) q3 (no k3 hk3) ⟨rfl,by show(1:Nat)≤140737488355328;omega,ini_i64.2 (by dsimp only;omega)⟩
theorem lexample_ok{M:List Nat}{w:World}(hM:∀b∈M,b<w.heap.size):Calls Tryz.prog 36 #[] w fun e w'=>∃a n c,e=.returned (.slice a n c)∧KpL [] w w'∧R (tSl tNm) M w' [exNm] [.slice a n c]:=by
 refine lexample_vc (u:=0) ⟨(lArray_ok hM).mono ?_⟩
 rintro e w1 ⟨a1,n1,c1,a2,n2,c2,a3,n3,c3,rfl,hw1,h1,h2⟩
 refine⟨_,_,_,_,_,_,_,_,_,rfl,hw1,fun k7 hk7 k8 hk8 w2 hw2 hkn2=>⟨_,_,_,rfl,hw1.trans hw2,?_⟩⟩
 exact one_R (t:=tNm) (cs:=[_,_,_,_]) hkn2 (fun hm=>by have:=hM k8 hm;have:=hw1.size;omega) (R.mkNm (c:=exNm) (by show(1:Nat)≤9223372036854775807;omega) (h1.kp0 hw2) (h2.kp0 hw2) (R.sl_nil _ _ _ _ _))
end Go.Vc
namespace Go.Vc
open Go Go.Proofs
structure Like (s t:Sto):Prop where
 arr:s.arrays=t.arrays
 bat:s.batches=t.batches
 pls:s.places.Perm t.places
 us:s.use=t.use
theorem Like.symm{s t:Sto}(h:Like s t):Like t s:=⟨h.arr.symm,h.bat.symm,h.pls.symm,h.us.symm⟩
theorem Like.trans{s t u:Sto}(h:Like s t)(k:Like t u):Like s u:=⟨h.arr.trans k.arr,h.bat.trans k.bat,h.pls.trans k.pls,h.us.trans k.us⟩
theorem getM_none{κ β:Type}[DecidableEq κ]{l:List (κ×β)}{k:κ}(h:k∉l.map (·.1)):getM l k=none:=by
 unfold getM
 rw[List.find?_eq_none.2]
 ·rfl
 ·intro p hp
  simp only[decide_eq_true_eq]
  rintro rfl
  exact h (List.mem_map.2 ⟨p,hp,rfl⟩)
theorem getM_perm{κ β:Type}[DecidableEq κ]{l m:List (κ×β)}(h:l.Perm m)(nd:(l.map (·.1)).Nodup)(k:κ):getM l k=getM m k:=by
 have nd':(m.map (·.1)).Nodup:=(h.map _).nodup_iff.1 nd
 by_cases hk:k∈l.map (·.1)
 ·obtain⟨p,hp,rfl⟩:=List.mem_map.1 hk
  rw[getM_mem nd (v:=p.2) hp,getM_mem nd' (v:=p.2) (h.mem_iff.1 hp)]
 ·rw[getM_none hk,getM_none fun hm=>hk ((h.map _).mem_iff.2 hm)]
theorem putM_perm{κ β:Type}[DecidableEq κ]{l m:List (κ×β)}(h:l.Perm m)(k:κ)(v:β):(putM l k v).Perm (putM m k v):=by
 unfold putM
 have e:l.any (fun p=>decide (p.1=k))=m.any (fun p=>decide (p.1=k)):=h.any_eq
 rw[e]
 split
 ·exact h.map _
 ·exact h.append_right _
theorem putPs_perm{bs:List Seen}{n k:Int}:∀{l:List Cell} {p q:List (Pl×Sta)},p.Perm q→(p.map (·.1)).Nodup→(putPs bs n k p l).Perm (putPs bs n k q l)
 |[],p,q,h,_=>h
 |c::r,p,q,h,nd=>by
  have h1:(putP bs n k p c).Perm (putP bs n k q c):=by
   unfold putP
   rw[getM_perm h nd]
   split
   ·exact putM_perm h _ _
   ·exact h
  have nd1:((putP bs n k p c).map (·.1)).Nodup:=by
   unfold putP
   split
   ·exact putM_nd nd
   ·exact nd
  exact putPs_perm (l:=r) h1 nd1
theorem Like.commit{s t:Sto}(h:Like s t)(nd:(s.places.map (·.1)).Nodup)(b:Bt):Like (s.commit b) (t.commit b):=by
 refine⟨h.arr,by show s.batches++[b.seen]=t.batches++[b.seen];rw[h.bat],?_,by show s.use+b.weight=t.use+b.weight;rw[h.us]⟩
 show(putPs _ _ _ s.places b.changes).Perm (putPs _ _ _ t.places b.changes)
 rw[h.bat,h.arr]
 exact putPs_perm h.pls nd
theorem commits_arr:∀(bt:List Bt) (st:Sto),(st.commits bt).arrays=st.arrays
 |[],_=>rfl
 |b::r,st=>commits_arr r (st.commit b)
theorem commits_bat:∀(bt:List Bt) (st:Sto),(st.commits bt).batches=st.batches++bt.map Bt.seen
 |[],st=>by simp[Sto.commits]
 |b::r,st=>by
  have:=commits_bat r (st.commit b)
  have e:(st.commit b).batches=st.batches++[b.seen]:=rfl
  rw[e]at this
  show((st.commit b).commits r).batches=_
  rw[this]
  simp
theorem commits_snoc(st:Sto)(bt:List Bt)(b:Bt):st.commits (bt++[b])=(st.commits bt).commit b:=by unfold Sto.commits;rw[List.foldl_append];rfl
theorem StoV.like{s t:Sto}(h:StoV s)(k:Like s t):StoV t:=by
 obtain⟨a1,an,nms,nd,sch,cel,bn,bat,toks,pn,pls,keys,u0,u1⟩:=h
 obtain⟨ka,kb,kp,ku⟩:=k
 rw[ka]at a1 an nms nd sch cel pls
 rw[kb]at bn bat toks pls
 rw[ku]at u0 u1
 exact⟨a1,an,nms,nd,sch,cel,bn,bat,toks,by rw[←kp.length_eq];exact pn,fun p hp=>pls p (kp.mem_iff.2 hp),(kp.map _).nodup_iff.1 keys,u0,u1⟩
theorem StoV.withId{s:Sto}(h:StoV s)(i:Int):StoV { s with id:=i }:=⟨h.a1,h.an,h.nms,h.nd,h.sch,h.cel,h.bn,h.bat,h.toks,h.pn,h.pls,h.keys,h.u0,h.u1⟩
theorem StoV.withUse{s:Sto}(h:StoV s){u:Int}(h0:0≤u)(h1:u≤100000):StoV { s with use:=u }:=⟨h.a1,h.an,h.nms,h.nd,h.sch,h.cel,h.bn,h.bat,h.toks,h.pn,h.pls,h.keys,h0,h1⟩
theorem Like.withId(s:Sto)(i:Int):Like { s with id:=i } s:=⟨rfl,rfl,List.Perm.refl _,rfl⟩
end Go.Vc
namespace Go.Vc
open Go Go.Proofs
def Sto.low(st:Sto):Int:=1+8*st.arrays.length+3*st.places.length+st.batches.length
structure Lv (k:Dk) (num:Int) (nxt:Nat) (st:Sto):Prop where
 v:StoV st
 id:st.id=k.st
 k0:0≤k.st
 n1:k.n≤1024
 lo:st.low≤st.use
 hi:st.use≤k.half
 nx:(nxt:Int)≤st.use
 disk:∃bs ps bt,DkS k num nxt st.arrays bs ps bt∧StoV (baseSto st.arrays bs ps)∧(∀b∈bt,BtOk (baseSto st.arrays bs ps) b)∧Like ((baseSto st.arrays bs ps).commits bt) st
theorem Lv.ready{k:Dk}{num:Int}{nxt:Nat}{st:Sto}(h:Lv k num nxt st):readyE st k=0:=by
 obtain⟨bs,ps,bt,hD,_⟩:=h.disk
 unfold readyE
 rw[if_neg]
 rintro(hc|hc)
 ·rw[hD.cl.on]at hc;cases hc
 ·exact hc h.id
theorem Lv.n10{k:Dk}{num:Int}{nxt:Nat}{st:Sto}(h:Lv k num nxt st):10≤k.n:=by
 obtain⟨bs,ps,bt,hD,_⟩:=h.disk
 exact hD.n2
theorem Lv.half{k:Dk}{num:Int}{nxt:Nat}{st:Sto}(h:Lv k num nxt st):k.half≤511:=by
 have:=h.n1
 unfold Dk.half Dk.secs
 omega
theorem Lv.stoB{k:Dk}{num:Int}{nxt:Nat}{st:Sto}(h:Lv k num nxt st):StoB st :=
 ⟨h.v.an,h.v.sch,by have:=h.v.bn;omega,fun p hp=>⟨(h.v.pls p hp).b0,(h.v.pls p hp).b1⟩,h.v.u0,by have:=h.v.u1;omega⟩
def Sto.putS(st:Sto)(half:Nat)(b:Bt):Bool×Int×Sto :=
 if st.checkE b≠0 then (false,st.checkE b,st) else if st.batches.any (fun x=>decide (x.token=b.token))=true then (false,0,st)
 else if (half:Int)<st.use+b.weight then (false,18,st) else (true,0,st.commit b)
theorem Lv.put{k:Dk}{num:Int}{nxt:Nat}{st:Sto}(h:Lv k num nxt st)(b:Bt):
 (st.put k num nxt b).ok=(st.putS k.half b).1∧(st.put k num nxt b).e=(st.putS k.half b).2.1∧(st.put k num nxt b).st=(st.putS k.half b).2.2∧Lv (st.put k num nxt b).k num (st.put k num nxt b).nxt (st.putS k.half b).2.2∧
 (st.put k num nxt b).k.n=k.n∧(st.put k num nxt b).k.st=k.st∧(st.checkE b=0→st.use+b.weight≤k.half→AddOk k num nxt 2 (encB st.arrays b)):=by
 obtain⟨bs,ps,bt,hD,hB,hbt,hL⟩:=h.disk
 have hhalf:=h.half
 have hr:=h.ready
 have hadd:st.checkE b=0→st.use+b.weight≤k.half→nxt+secsOf (encB st.arrays b)<k.half∧(encB st.arrays b).length<16777216:=fun h1 h2=>by
  obtain⟨s1,s2⟩:=encB_secs h.v.sch h.v.an (checkE_ok h1)
  have:=h.nx
  unfold Bt.weight at h2
  exact⟨by omega,s2⟩
 have hAdd:st.checkE b=0→st.use+b.weight≤k.half→AddOk k num nxt 2 (encB st.arrays b):=fun h1 h2=>(hD.add (hadd h1 h2).1 (hadd h1 h2).2).2.2.2.2
 unfold Sto.put Sto.putS
 rw[if_neg (by simp[hr])]
 by_cases h1:st.checkE b≠0
 ·rw[if_pos h1,if_pos h1]
  exact⟨rfl,rfl,rfl,h,rfl,rfl,hAdd⟩
 rw[if_neg h1,if_neg h1]
 by_cases h2:st.batches.any (fun x=>decide (x.token=b.token))=true
 ·rw[if_pos h2,if_pos h2]
  exact⟨rfl,rfl,rfl,h,rfl,rfl,hAdd⟩
 rw[if_neg h2,if_neg h2]
 by_cases h3:(k.half:Int)<st.use+b.weight
 ·rw[if_pos h3,if_pos h3]
  exact⟨rfl,rfl,rfl,h,rfl,rfl,hAdd⟩
 rw[if_neg h3,if_neg h3]
 have h1':=Classical.not_not.1 h1
 have hbo:=checkE_ok h1'
 obtain⟨a1,a2,a3,a4,a5⟩:=hD.add (hadd h1' (by omega)).1 (hadd h1' (by omega)).2
 rw[if_neg (by simp[a1])]
 have hlo:=h.lo
 have hhi:=h.hi
 unfold Sto.low at hlo
 have hpl:=(putPs_nd (bs:=st.batches++[b.seen]) (n:=(st.batches.length+1:Nat)) (k:=findA_ st.arrays b.array) (l:=b.changes) h.v.keys).2
 have ew:b.weight=2+3*(b.changes.length:Int):=rfl
 have ht:∀x∈st.batches,x.token≠b.token:=fun x hx he=>h2 (List.any_eq_true.2 ⟨x,hx,by simpa using he⟩)
 have hh:(k.add num nxt 2 (encB st.arrays b)).2.half=k.half:=Dk.half_n a3
 refine⟨rfl,rfl,rfl,⟨h.v.commit hbo ht (by omega) (by omega) (by omega),?_,?_,?_,?_,?_,?_,bs,ps,bt++[b],a2,hB,?_,?_⟩,a3,a4,hAdd⟩
 ·show st.id=_
  rw[h.id];exact a4.symm
 ·show 0≤(k.add num nxt 2 (encB st.arrays b)).2.st
  rw[a4];exact h.k0
 ·show(k.add num nxt 2 (encB st.arrays b)).2.n≤1024
  rw[a3];exact h.n1
 ·show 1+8*(st.arrays.length:Int)+3*((putPs (st.batches++[b.seen]) (st.batches.length+1:Nat) (findA_ st.arrays b.array) st.places b.changes).length:Int)+((st.batches++[b.seen]).length:Int)≤st.use+b.weight
  rw[List.length_append,List.length_cons,List.length_nil]
  omega
 ·show st.use+b.weight≤(k.add num nxt 2 (encB st.arrays b)).2.half
  rw[hh];omega
 ·show((nxt+1+secsOf (encB st.arrays b):Nat):Int)≤st.use+b.weight
  have:=(encB_secs h.v.sch h.v.an hbo).1
  have:=h.nx
  omega
 ·intro b' hb'
  rcases List.mem_append.1 hb' with hb'|hb'
  ·exact hbt b' hb'
  ·simp at hb'
   subst hb'
   exact hbo.of_arr rfl
 ·rw[commits_snoc]
  exact hL.commit ((hL.pls.map _).nodup_iff.2 h.v.keys) b
theorem Lv.cmp{k:Dk}{num:Int}{nxt:Nat}{st:Sto}(h:Lv k num nxt st)(hnum:num+1<1000000){ps':List (Pl×Sta)}(hp:ps'.Perm st.places):
 (st.cmp k num nxt ps').e=0∧(st.cmp k num nxt ps').num=num+1∧(st.cmp k num nxt ps').st={ st with use:=st.low }∧Lv (st.cmp k num nxt ps').k (num+1) (st.cmp k num nxt ps').nxt { st with use:=st.low }∧(st.cmp k num nxt ps').k.n=k.n∧(st.cmp k num nxt ps').k.st=k.st∧
 AddOk (k.clear (num+1) 0).2 (num+1) 0 1 (encBase st.arrays st.batches ps')∧((k.clear (num+1) 0).2.add (num+1) 0 1 (encBase st.arrays st.batches ps')).2.pend.length≤1000000:=by
 obtain⟨bs,ps,bt,hD,hB,hbt,hL⟩:=h.disk
 have hhalf:=h.half
 have hr:=h.ready
 have hn1:=h.n1
 have hlo:=h.lo
 have hhi:=h.hi
 unfold Sto.low at hlo
 have hs:=encBase_secs h.v hp
 have hlen:=encBase_len h.v hp
 obtain⟨c1,c2,c3,c4,c5,c6,c7,c8⟩:=hD.cmp hnum (arrays':=st.arrays) (bs':=st.batches) (ps':=ps') (by omega) (by omega) (by omega)
 have e0:st.cmp k num nxt ps'=⟨0,{ st with use:=st.low },(((k.clear (num+1) 0).2.add (num+1) 0 1 (encBase st.arrays st.batches ps')).2.note (num+1)).2,num+1,0+1+secsOf (encBase st.arrays st.batches ps')⟩:=by
  unfold Sto.cmp
  rw[if_neg (by simp[hr]),if_neg (by simp[c1]),if_neg (by simp[c2]),if_neg (by simp[c3])]
  rfl
 rw[e0]
 have hh:(((k.clear (num+1) 0).2.add (num+1) 0 1 (encBase st.arrays st.batches ps')).2.note (num+1)).2.half=k.half:=Dk.half_n c5
 have hu:StoV { st with use:=st.low }:=h.v.withUse (by unfold Sto.low;omega) (by unfold Sto.low;omega)
 have hpl:=hp.length_eq
 refine⟨rfl,rfl,rfl,⟨hu,h.id.trans c6.symm,by dsimp only;rw[c6];exact h.k0,by dsimp only;rw[c5];exact h.n1,Int.le_refl _,?_,?_,st.batches,ps',[],c4,?_,by simp,?_⟩,c5,c6,c7,by rw[c8];simp⟩
 ·dsimp only
  rw[hh]
  unfold Sto.low;omega
 ·dsimp only
  unfold Sto.low;omega
 ·refine⟨hu.a1,hu.an,hu.nms,hu.nd,hu.sch,hu.cel,hu.bn,hu.bat,hu.toks,?_,fun p hpp=>hu.pls p (hp.mem_iff.1 hpp),(hp.map _).nodup_iff.2 hu.keys,?_,?_⟩
  ·show ps'.length≤4000
   rw[hpl];exact hu.pn
  ·show(0:Int)≤1+8*st.arrays.length+3*ps'.length+st.batches.length
   omega
  ·show(1:Int)+8*st.arrays.length+3*ps'.length+st.batches.length≤100000
   omega
 ·refine⟨rfl,rfl,hp,?_⟩
  show(1:Int)+8*st.arrays.length+3*ps'.length+st.batches.length=st.low
  unfold Sto.low
  rw[hpl]
theorem Lv.opened{k:Dk}{num:Int}{nxt:Nat}{st:Sto}(h:Lv k num nxt st):
 k.newest=num∧k.down=false∧k.pend=[]∧0<num∧(k.clear num nxt).1=0∧(k.clear num nxt).2.st=k.st∧(k.clear num nxt).2.n=k.n∧
 ∃bs ps bt,Recs k num 0 ((1,encBase st.arrays bs ps)::bt.map fun b=>(2,encB st.arrays b)) nxt∧StoV (baseSto st.arrays bs ps)∧(∀b∈bt,BtOk (baseSto st.arrays bs ps) b)∧bt.length≤1000∧
  ∀i,i=k.st+1→Like { (baseSto st.arrays bs ps).commits bt with id:=i } st∧Lv { (k.clear num nxt).2 with st:=i } num nxt { (baseSto st.arrays bs ps).commits bt with id:=i }:=by
 obtain⟨bs,ps,bt,hD,hB,hbt,hL⟩:=h.disk
 obtain⟨d1,d2,d3,d4,d5,d6⟩:=hD.opened
 refine⟨d1,hD.cl.on,hD.pend,hD.num0,d3,d4,d5,bs,ps,bt,d2,hB,hbt,?_,?_⟩
 ·have:=commits_bat bt (baseSto st.arrays bs ps)
  rw[hL.bat]at this
  have e:=congrArg List.length this
  rw[List.length_append,List.length_map]at e
  have:=h.v.bn
  omega
 ·rintro i rfl
  have hl:Like { (baseSto st.arrays bs ps).commits bt with id:=k.st+1 } st:=(Like.withId _ _).trans hL
  have hlo:=h.lo
  have hhi:=h.hi
  have hnx:=h.nx
  have hk0:=h.k0
  have hn1:=h.n1
  have hh:({ (k.clear num nxt).2 with st:=k.st+1 }:Dk).half=k.half:=Dk.half_n d5
  refine⟨hl,h.v.like hl.symm,rfl,by dsimp only;omega,by dsimp only;rw[d5];omega,?_,?_,?_,bs,ps,bt,?_,?_,?_,?_⟩
  ·have e1:=hl.us
   have e2:=hl.pls.length_eq
   have e3:=congrArg List.length hl.bat
   have e4:=congrArg List.length hl.arr
   unfold Sto.low at hlo ⊢
   rw[e1,e2,e3,e4]
   exact hlo
  ·rw[hl.us,hh];exact hhi
  ·rw[hl.us];exact hnx
  ·have e4:(({ (baseSto st.arrays bs ps).commits bt with id:=k.st+1 }:Sto)).arrays=st.arrays:=hl.arr
   rw[e4];exact d6 _
  ·have e4:(({ (baseSto st.arrays bs ps).commits bt with id:=k.st+1 }:Sto)).arrays=st.arrays:=hl.arr
   rw[e4];exact hB
  ·have e4:(({ (baseSto st.arrays bs ps).commits bt with id:=k.st+1 }:Sto)).arrays=st.arrays:=hl.arr
   rw[e4];exact hbt
  ·have e4:(({ (baseSto st.arrays bs ps).commits bt with id:=k.st+1 }:Sto)).arrays=st.arrays:=hl.arr
   rw[e4];exact(Like.withId _ _).symm
theorem Lv.fmt{k:Dk}(h:Cl k)(h2:10≤k.n)(n1:k.n≤1024)(k0:0≤k.st){db:List Nm}(hdb:dbE db=0)(hne:db.length≠0)(hu:(fmtSto db).use≤k.half){ps':List (Pl×Sta)}(hp:ps'.Perm (fmtPl 0 db)):
 (k.fmt (encBase (db.map fmtArr) [] ps')).1=0∧(k.fmt (encBase (db.map fmtArr) [] ps')).2.st=k.st∧(k.fmt (encBase (db.map fmtArr) [] ps')).2.n=k.n∧AddOk k.zero.2 1 0 1 (encBase (db.map fmtArr) [] ps')∧(k.zero.2.add 1 0 1 (encBase (db.map fmtArr) [] ps')).2.pend=[]∧
 ∀i,i=k.st+1→Lv { (k.fmt (encBase (db.map fmtArr) [] ps')).2 with st:=i } 1 (0+1+secsOf (encBase (db.map fmtArr) [] ps')) { fmtSto db with id:=i }:=by
 have hhalf:k.half≤511:=by unfold Dk.half Dk.secs;omega
 have eu:(fmtSto db).use=1+8*((db.map fmtArr).length:Int)+3*((fmtPl 0 db).length:Int)+(([]:List Seen).length:Int):=rfl
 simp only[List.length_nil]at eu
 have hv:=fmtSto_ok hdb hne (by omega)
 have hs:=encBase_secs hv (ps:=ps') hp
 have hlen:=encBase_len hv (ps:=ps') hp
 have ea:(fmtSto db).arrays=db.map fmtArr:=rfl
 have eb:(fmtSto db).batches=[]:=rfl
 have ep:(fmtSto db).places=fmtPl 0 db:=rfl
 rw[ea,eb,ep]at hs hlen
 simp only[List.length_nil]at hs hlen
 obtain⟨f1,f2,f3,f4,f5,f6⟩:=DkS.format h h2 (arrays:=db.map fmtArr) (ps:=ps') (by omega) (by omega)
 have hpl:=hp.length_eq
 refine⟨f1,f4,f3,f5,f6,?_⟩
 rintro i rfl
 have hh:({ (k.fmt (encBase (db.map fmtArr) [] ps')).2 with st:=k.st+1 }:Dk).half=k.half:=Dk.half_n f3
 refine⟨hv.withId _,rfl,by dsimp only;omega,by dsimp only;rw[f3];exact n1,?_,?_,?_,[],ps',[],⟨⟨f2.cl.on,f2.cl.fu,f2.cl.len⟩,f2.n2,f2.num0,f2.num1,f2.note,f2.log,f2.pend⟩,?_,by simp,?_⟩
 ·unfold Sto.low
  show _≤(fmtSto db).use
  rw[eu]
  exact Int.le_refl _
 ·rw[hh];exact hu
 ·show _≤(fmtSto db).use
  rw[eu]
  omega
 ·refine⟨hv.a1,hv.an,hv.nms,hv.nd,hv.sch,hv.cel,hv.bn,hv.bat,hv.toks,?_,fun p hpp=>hv.pls p (hp.mem_iff.1 hpp),(hp.map _).nodup_iff.2 hv.keys,?_,?_⟩
  ·show ps'.length≤4000
   omega
  ·show(0:Int)≤1+8*(db.map fmtArr).length+3*ps'.length+(0:Nat)
   omega
  ·show(1:Int)+8*(db.map fmtArr).length+3*ps'.length+(0:Nat)≤100000
   omega
 ·refine⟨rfl,rfl,hp,?_⟩
  show(1:Int)+8*(db.map fmtArr).length+3*ps'.length+(0:Nat)=(fmtSto db).use
  rw[eu,hpl]
end Go.Vc
namespace Go.Vc
open Go Go.Proofs
def SysL(M:List Nat)(w:World)(s d n:Nat)(c:Int)(st:Sto)(G:List Nat):Prop :=
 ∃l num nxt k F Fd,SysAt M w s l d num nxt st k F Fd∧Lv k num nxt st∧k.n=n∧num≤c∧k.st≤c∧G=F++Fd
section
variable {M G:List Nat} {w:World} {s d n:Nat} {c:Int} {st:Sto} (h:SysL M w s d n c st G)
include h
theorem SysL.kp0{w':World}(kp:KpL [] w w'):SysL M w' s d n c st G:=by
 obtain⟨l,num,nxt,k,F,Fd,hS,hL,hn,hc,hk,rfl⟩:=h
 exact⟨l,num,nxt,k,F,Fd,hS.kp0 kp,hL,hn,hc,hk,rfl⟩
theorem SysL.step{M' N:List Nat}{w':World}(kp:KpL N w w')(hs:∀b∈N,b∈M)(hn:∀b∈M',(b∈M∨w.heap.size≤b)∧b<w'.heap.size):SysL M' w' s d n c st G:=by
 obtain⟨l,num,nxt,k,F,Fd,hS,hL,hn',hc,hk,rfl⟩:=h
 exact⟨l,num,nxt,k,F,Fd,hS.step kp hs hn,hL,hn',hc,hk,rfl⟩
theorem SysL.mlt:∀b∈M,b<w.heap.size:=by
 obtain⟨l,num,nxt,k,F,Fd,hS,hL,hn',hc,hk,rfl⟩:=h
 exact hS.mlt
theorem SysL.own_lt:∀b∈G,b<w.heap.size∧b∉M:=by
 obtain⟨l,num,nxt,k,F,Fd,hS,hL,hn',hc,hk,rfl⟩:=h
 exact hS.own_lt
theorem SysL.put{Mc:List Nat}{b:Bt}{ca:Option Addr}{cn cc:Nat}(hc:R (tSl tCell) (G++Mc) w b.changes [.slice ca cn cc]):
 Calls Tryz.prog 13 #[.pointer (some ⟨s,0,none⟩),.agg #[.string b.token,.int .i64 b.stamp,.string b.array,.slice ca cn cc]] w fun e w'=>e=.returned (.tuple #[.bool (st.putS ((n - 2) / 2) b).1,.int .i64 (st.putS ((n - 2) / 2) b).2.1])∧
  ∃G',SysL M w' s d n c (st.putS ((n - 2) / 2) b).2.2 G'∧Own G w G' w':=by
 obtain⟨l,num,nxt,k,F,Fd,hS,hL,rfl,hc1,hk,rfl⟩:=h
 obtain⟨p1,p2,p3,p4,p5,p6,p7⟩:=hL.put b
 have hn10:=hL.n10
 obtain⟨bs,ps,bt,hD,_⟩:=hL.disk
 refine(sPut_ok hS hc hL.stoB (by omega) (by have:=hD.num0;omega) p7).mono ?_
 rintro e w' ⟨rfl,F',Fd',h',hO⟩
 have eh:k.half=(k.n - 2) / 2:=rfl
 rw[←eh]
 rw[p3]at h'
 exact⟨by rw[p1,p2],F'++Fd',⟨l,num,_,_,F',Fd',h',p4,p5,hc1,by rw[p6];exact hk,rfl⟩,hO⟩
theorem SysL.cmp(hcl:c<900000):Calls Tryz.prog 14 #[.pointer (some ⟨s,0,none⟩)] w fun e w'=>e=.returned (.int .i64 0)∧
 ∃G',SysL M w' s d n (c+1) { st with use:=st.low } G'∧Own G w G' w':=by
 obtain⟨l,num,nxt,k,F,Fd,hS,hL,rfl,hc1,hk,rfl⟩:=h
 have hn10:=hL.n10
 obtain⟨bs,ps,bt,hD,_⟩:=hL.disk
 have hnum:=hD.num0
 refine(sCompact_ok hS hL.v (by omega) (by omega) (by omega) (by rw[hD.pend];simp) (fun ps' hp _=>(hL.cmp (by omega) hp).2.2.2.2.2.2.1) (fun ps' hp _ _=>(hL.cmp (by omega) hp).2.2.2.2.2.2.2)).mono ?_
 rintro e w' ⟨ps',hp,rfl,l',F',Fd',h',hO⟩
 obtain⟨p1,p2,p3,p4,p5,p6,_,_⟩:=hL.cmp (by omega) hp
 rw[p2,p3]at h'
 exact⟨by rw[p1],F'++Fd',⟨l',num+1,_,_,F',Fd',h',p4,p5,by omega,by rw[p6];omega,rfl⟩,hO⟩
theorem SysL.db{N:List Nat}(hN:∀b∈N,b<w.heap.size):Calls Tryz.prog 16 #[.pointer (some ⟨s,0,none⟩)] w fun e w'=>KpL [] w w'∧
 ∃out a m q,e=.returned (.tuple #[.slice a m q,.int .i64 0])∧out.length=st.arrays.length∧DbRel st.arrays st.places out∧R (tSl tNm) N w' out [.slice a m q]:=by
 obtain⟨l,num,nxt,k,F,Fd,hS,hL,rfl,hc1,hk,rfl⟩:=h
 refine(sDB_ok hS.sto hS.dk hL.v hN).mono ?_
 rintro e w' ⟨h1,h2⟩
 rw[if_neg (by simp[hL.ready])]at h2
 exact⟨h1,h2⟩
theorem SysL.room:Calls Tryz.prog 29 #[.pointer (some ⟨s,0,none⟩)] w (PureR (.tuple #[.int .i64 (((n - 2) / 2:Nat) - st.use),.int .i64 0]) w):=by
 obtain⟨l,num,nxt,k,F,Fd,hS,hL,rfl,hc1,hk,rfl⟩:=h
 have hn10:=hL.n10
 have:=room_ok hS.sto hS.dk (by omega) ⟨hL.v.u0,by have:=hL.v.u1;omega⟩
 rw[hL.ready,if_neg (by simp)]at this
 exact this
theorem SysL.tokens{N:List Nat}(hN:∀b∈N,b<w.heap.size):Calls Tryz.prog 30 #[.pointer (some ⟨s,0,none⟩)] w fun e w'=>∃a m q,e=.returned (.tuple #[.slice a m q,.int .i64 0])∧KpL [] w w'∧R (tSl tS) N w' (st.batches.map (·.token)) [.slice a m q]:=by
 obtain⟨l,num,nxt,k,F,Fd,hS,hL,rfl,hc1,hk,rfl⟩:=h
 have:=tokens_ok hN hS.sto hS.dk (by have:=hL.v.bn;omega)
 rw[hL.ready,if_neg (by simp)]at this
 exact this
end
theorem fmtL{M Mdb Fd:List Nat}{w:World}{d n:Nat}{db:List Nm}{dba:Option Addr}{dbn dbc:Nat}(h:DkAt M w d (newDk n) Fd)(h1:64≤n)(h2:n≤1024)(hd:R (tSl tNm) Mdb w db [.slice dba dbn dbc])(hp:(fmtPl 0 db).length≤4000):
 Calls Tryz.prog 20 #[.pointer (some ⟨d,0,none⟩),.slice dba dbn dbc] w fun e w' =>
  if dbE db≠0∨db.length=0 then e=.returned (.tuple #[.pointer none,.int .i64 2])∧KpL [] w w'
  else if (((n - 2) / 2:Nat):Int)<(fmtSto db).use then e=.returned (.tuple #[.pointer none,.int .i64 18])∧KpL [] w w'
  else ∃s G i,e=.returned (.tuple #[.pointer (some ⟨s,0,none⟩),.int .i64 0])∧SysL M w' s d n 1 { fmtSto db with id:=i } G∧Own Fd w G w':=by
 have hcl:Cl (newDk n):=⟨rfl,rfl,by simp[newDk]⟩
 have en:(newDk n).n=n:=rfl
 have es:(newDk n).st=0:=rfl
 have eh:(newDk n).half=(n - 2) / 2:=rfl
 refine(sFormat_ok h hd hp (by simp[newDk]) (by omega) fun g1 g2 g3 g4 ps' hps=>?_).mono ?_
 ·obtain⟨f1,f2,f3,f4,f5,f6⟩:=Lv.fmt hcl (by omega) h2 (by omega) g1 g2 g4 hps
  exact⟨fun _=>f4,fun _ _=>by rw[f5];simp,by rw[f2,es];exact ini_i64.2 (by omega)⟩
 ·intro e w' hh
  split at hh
  ·rename_i hz
   rw[if_pos hz];exact hh
  rename_i hz
  rw[if_neg hz]
  rw[if_neg (by simp[newDk])]at hh
  rw[eh]at hh
  split at hh
  ·rename_i hz2
   rw[if_pos hz2];exact hh
  rename_i hz2
  rw[if_neg hz2]
  obtain⟨ps',hps,hh⟩:=hh
  obtain⟨f1,f2,f3,f4,f5,f6⟩:=Lv.fmt hcl (by omega) h2 (by omega) (by omega) (fun hc=>hz (.inr hc)) (by rw[eh];omega) hps
  rw[if_neg (by simp[f1])]at hh
  obtain⟨s,l,F,Fd',rfl,h',hO⟩:=hh
  exact⟨s,F++Fd',_,rfl,⟨l,1,_,_,F,Fd',h',f6 _ (by rw[f2]),f3,Int.le_refl _,by dsimp only;rw[f2,es];omega,rfl⟩,hO⟩
end Go.Vc
namespace Go.Vc
open Go Go.Proofs
open Go.Value Go.Ending Go.IntKind
set_option maxRecDepth 100000
theorem lhas_vc{s:Nat}{la:Option Addr}{ln lc:Nat}{w:World}{R:Ending→World→Prop}
 (h :
 CallW Tryz.prog 16 #[pointer (some (Addr.mk s 0 none))] w fun e1 w1 =>
 ∃a1 k1 k2 n1,e1=returned (tuple #[slice a1 k1 k2,int i64 n1])∧
 KpL [] w w1∧
 (¬n1≠0→
 (¬(↑k1:Int)≠(1:Int)→
 ∃d1,a1=some d1∧
 (0:Int)≤(0:Int)∧
 (0:Int)<(↑k1:Int)∧
 ∃a2 k3 k4,LdA w1 (((d1.add (Int.toNat 0*4)).add 1).add 2) [slice a2 k3 k4]∧
 ((↑k3:Int)≠(↑ln:Int)→
 R (returned (Value.bool false)) w1)∧
 (¬(↑k3:Int)≠(↑ln:Int)→
 ∃(P1:List Value→World→Prop) (P2:List Value→World→Nat),P1 [int i64 0] w1∧
 ∀n2 w2,P1 [int i64 n2] w2→
 (n2<(↑ln:Int)→
 ∃d2,a1=some d2∧
 (0:Int)≤(0:Int)∧
 (0:Int)<(↑k1:Int)∧
 ∃a3 k5 k6,LdA w2 (((d2.add (Int.toNat 0*4)).add 1).add 2) [slice a3 k5 k6]∧
 ∃d3,a3=some d3∧
 0≤n2∧
 n2<(↑k5:Int)∧
 ∃a4 k7 k8 a5 k9 k10,LdA w2 (d3.add (n2.toNat*2)) [slice a4 k7 k8,slice a5 k9 k10]∧
 ∀k11,w2.heap.size≤k11→
 (¬(↑k7:Int)≠(2:Int)→
 ∃d4,a4=some d4∧
 (0:Int)≤(0:Int)∧
 (0:Int)<(↑k7:Int)∧
 ∃n3,LdA w2 (d4.add (Int.toNat 0*1)) [int i64 n3]∧
 ∃d5,la=some d5∧
 0≤n2∧
 n2<(↑ln:Int)∧
 ∃a6 k12 k13,LdA w2 ((d5.add (n2.toNat*2)).add 0) [slice a6 k12 k13]∧
 ∃d6,a6=some d6∧
 (0:Int)≤(0:Int)∧
 (0:Int)<(↑k12:Int)∧
 ∃n4,LdA w2 (d6.add (Int.toNat 0*1)) [int i64 n4]∧
 (¬n3≠n4→
 ∃d7,a4=some d7∧
 (0:Int)≤(1:Int)∧
 (1:Int)<(↑k7:Int)∧
 ∃n5,LdA w2 (d7.add (Int.toNat 1*1)) [int i64 n5]∧
 ∃d8,la=some d8∧
 0≤n2∧
 n2<(↑ln:Int)∧
 ∃a7 k14 k15,LdA w2 ((d8.add (n2.toNat*2)).add 0) [slice a7 k14 k15]∧
 ∃d9,a7=some d9∧
 (0:Int)≤(1:Int)∧
 (1:Int)<(↑k14:Int)∧
 ∃n6,LdA w2 (d9.add (Int.toNat 1*1)) [int i64 n6]∧
 (¬n5≠n6→
 (¬(↑k9:Int)≠(1:Int)→
 ∃d10,a5=some d10∧
 (0:Int)≤(0:Int)∧
 (0:Int)<(↑k9:Int)∧
 ∃n7 n8 n9 s1,LdA w2 (d10.add (Int.toNat 0*4)) [int i64 n7,int i64 n8,int i64 n9,string s1]∧
 ∃d11,la=some d11∧
 0≤n2∧
 n2<(↑ln:Int)∧
 ∃a8 k16 k17,LdA w2 ((d11.add (n2.toNat*2)).add 1) [slice a8 k16 k17]∧
 ∃d12,a8=some d12∧
 (0:Int)≤(0:Int)∧
 (0:Int)<(↑k16:Int)∧
 ∃n10 n11 n12 s2,LdA w2 (d12.add (Int.toNat 0*4)) [int i64 n10,int i64 n11,int i64 n12,string s2]∧
 ∃b1,Pv Tryz.prog
 (do
 eqGuard BinOp.neq 161 (Operand.tmp 88) (Operand.tmp 95) (agg #[int i64 n7,int i64 n8,int i64 n9,string s1]) (agg #[int i64 n10,int i64 n11,int i64 n12,string s2])
 binOp BinOp.neq 161 (agg #[int i64 n7,int i64 n8,int i64 n9,string s1]) (agg #[int i64 n10,int i64 n11,int i64 n12,string s2]))
 (Value.bool b1)∧
 (b1=true→
 ∀w3,KpL [] w2 w3→
 Hb w3 k11 #[slice a4 k7 k8,slice a5 k9 k10] 147→
 R (returned (Value.bool false)) w3)∧
 (b1=false→
 InI i64 (n2+1)∧
 ∀w4,KpL [] w2 w4→
 Hb w4 k11 #[slice a4 k7 k8,slice a5 k9 k10] 147→
 P1 [int i64 (n2+1)] w4∧
 P2 [int i64 (n2+1)] w4<P2 [int i64 n2] w2))∧
 ((↑k9:Int)≠(1:Int)→
 ∀w5,KpL [] w2 w5→
 Hb w5 k11 #[slice a4 k7 k8,slice a5 k9 k10] 147→
 R (returned (Value.bool false)) w5))∧
 (n5≠n6→
 ∀w6,KpL [] w2 w6→
 Hb w6 k11 #[slice a4 k7 k8,slice a5 k9 k10] 147→
 R (returned (Value.bool false)) w6))∧
 (n3≠n4→
 ∀w7,KpL [] w2 w7→
 Hb w7 k11 #[slice a4 k7 k8,slice a5 k9 k10] 147→
 R (returned (Value.bool false)) w7))∧
 ((↑k7:Int)≠(2:Int)→
 ∀w8,KpL [] w2 w8→
 Hb w8 k11 #[slice a4 k7 k8,slice a5 k9 k10] 147→
 R (returned (Value.bool false)) w8))∧
 (¬n2<(↑ln:Int)→
 R (returned (Value.bool true)) w2)))∧
 ((↑k1:Int)≠(1:Int)→
 R (returned (Value.bool false)) w1))∧
 (n1≠0→
 R (returned (Value.bool false)) w1)):Calls Tryz.prog 28 #[pointer (some (Addr.mk s 0 none)),slice la ln lc] w R :=
 fnc0 (an:={ loops:=[⟨5,[7],[4,8,32,33,34,35,36,37,38,39,40,41,42,43,44,45,46,47,48,49,50,51,52,53,54,55,56,57,58,59,60,61,62,63,64,65,66,67,68,69,70,71,72,73,74,75,76,77,78,79,80,81,82,83,84,85,86,87,88,89,90,91,92,93,94,95,96,97],[]⟩],all:=true }) (args:=[.a (.c (.v (.pointer (some ⟨s,0,none⟩)))),.a (.c (.v (.slice la ln lc)))]) Tryz_ok Tryz.func28 (by kernel_rfl) rfl rfl h
theorem lmade_vc{u:Nat}{w:World}{R:Ending→World→Prop}
 (h :
 CallW Tryz.prog 19 #[int i64 64] w fun e1 w1 =>
 ∃a1 n1,e1=returned (tuple #[pointer a1,int i64 n1])∧
 KpL [] w w1∧
 CallW Tryz.prog 36 #[] w1 fun e2 w2 =>
 ∃a2 k1 k2,e2=returned (slice a2 k1 k2)∧
 KpL [] w1 w2∧
 CallW Tryz.prog 20 #[pointer a1,slice a2 k1 k2] w2 fun e3 w3 =>
 ∃a3 n2,e3=returned (tuple #[pointer a3,int i64 n2])∧
 ∃l1,KpL l1 w2 w3∧
 (¬n1≠0→
 (¬n2≠0→
 (¬a1=none→
 (a3=none→
 R (returned (tuple #[pointer none,pointer none,Value.bool false])) w3)∧
 (¬a3=none→
 CallW Tryz.prog 29 #[pointer a3] w3 fun e4 w4 =>
 ∃n3 n4,e4=returned (tuple #[int i64 n3,int i64 n4])∧
 KpL [] w3 w4∧
 (n3=22→
 (n4=0→
 ∀k3,w4.heap.size≤k3→
 ∀w5,KpL [] w4 w5→
 Hb w5 k3 #[int i64 1] 2→
 CallW Tryz.prog 26 #[int i64 0,int i64 0,slice (some (Addr.mk k3 0 none)) 1 1] w5 fun e5 w6 =>
 ∃a4 k4 k5 a5 k6 k7,e5=returned (agg #[slice a4 k4 k5,slice a5 k6 k7])∧
 KpL [] w5 w6∧
 ∀k8,w6.heap.size≤k8→
 ∀w7,KpL [] w6 w7→
 Hb w7 k8 #[int i64 2] 2∧
 Hb w7 k3 #[int i64 1] 2→
 CallW Tryz.prog 26 #[int i64 1,int i64 0,slice (some (Addr.mk k8 0 none)) 1 1] w7 fun e6 w8 =>
 ∃a6 k9 k10 a7 k11 k12,e6=returned (agg #[slice a6 k9 k10,slice a7 k11 k12])∧
 KpL [] w7 w8∧
 ∀k13,w8.heap.size≤k13→
 ∀w9,KpL [] w8 w9→
 Hb w9 k13 #[slice a4 k4 k5,slice a5 k6 k7,slice a6 k9 k10,slice a7 k11 k12] 81∧
 Hb w9 k8 #[int i64 2] 2∧
 Hb w9 k3 #[int i64 1] 2→
 CallW Tryz.prog 25 (#[string (ByteArray.mk #[97]),int i64 5,slice (some (Addr.mk k13 0 none)) 2 2]) w9 fun e7 w10 =>
 ∃s1 n5 s2 a8 k14 k15,e7=returned (agg #[string s1,int i64 n5,string s2,slice a8 k14 k15])∧
 KpL [] w9 w10∧
 (Hb w10 k13 #[slice a4 k4 k5,slice a5 k6 k7,slice a6 k9 k10,slice a7 k11 k12] 81∧
 Hb w10 k8 #[int i64 2] 2∧
 Hb w10 k3 #[int i64 1] 2→
 CallW Tryz.prog 27 (#[pointer a3,agg #[string s1,int i64 n5,string s2,slice a8 k14 k15]]) w10 fun e8 w11 =>
 ∃b1,e8=returned (Value.bool b1)∧
 ∃l2,KpL l2 w10 w11∧
 (NotIn k13 l2∧
 NotIn k8 l2∧
 NotIn k3 l2)∧
 (b1=true→
 ∀k16,w11.heap.size≤k16→
 ∀w12,KpL [] w11 w12→
 Hb w12 k16 #[int i64 3] 2∧
 Hb w12 k13 #[slice a4 k4 k5,slice a5 k6 k7,slice a6 k9 k10,slice a7 k11 k12] 81∧
 Hb w12 k8 #[int i64 2] 2∧
 Hb w12 k3 #[int i64 1] 2→
 CallW Tryz.prog 26 #[int i64 1,int i64 0,slice (some (Addr.mk k16 0 none)) 1 1] w12 fun e9 w13 =>
 ∃a9 k17 k18 a10 k19 k20,e9=returned (agg #[slice a9 k17 k18,slice a10 k19 k20])∧
 KpL [] w12 w13∧
 ∀k21,w13.heap.size≤k21→
 ∀w14,KpL [] w13 w14→
 Hb w14 k21 #[int i64 4] 2∧
 Hb w14 k16 #[int i64 3] 2∧
 Hb w14 k13 #[slice a4 k4 k5,slice a5 k6 k7,slice a6 k9 k10,slice a7 k11 k12] 81∧
 Hb w14 k8 #[int i64 2] 2∧
 Hb w14 k3 #[int i64 1] 2→
 CallW Tryz.prog 26 #[int i64 3,int i64 1,slice (some (Addr.mk k21 0 none)) 1 1] w14 fun e10 w15 =>
 ∃a11 k22 k23 a12 k24 k25,e10=returned (agg #[slice a11 k22 k23,slice a12 k24 k25])∧
 KpL [] w14 w15∧
 ∀k26,w15.heap.size≤k26→
 ∀w16,KpL [] w15 w16→
 Hb w16 k26 #[slice a9 k17 k18,slice a10 k19 k20,slice a11 k22 k23,slice a12 k24 k25] 81∧
 Hb w16 k21 #[int i64 4] 2∧
 Hb w16 k16 #[int i64 3] 2∧
 Hb w16 k13 #[slice a4 k4 k5,slice a5 k6 k7,slice a6 k9 k10,slice a7 k11 k12] 81∧
 Hb w16 k8 #[int i64 2] 2∧
 Hb w16 k3 #[int i64 1] 2→
 CallW Tryz.prog 25 (#[string (ByteArray.mk #[98]),int i64 4,slice (some (Addr.mk k26 0 none)) 2 2]) w16 fun e11 w17 =>
 ∃s3 n6 s4 a13 k27 k28,e11=returned (agg #[string s3,int i64 n6,string s4,slice a13 k27 k28])∧
 KpL [] w16 w17∧
 (Hb w17 k26 #[slice a9 k17 k18,slice a10 k19 k20,slice a11 k22 k23,slice a12 k24 k25] 81∧
 Hb w17 k21 #[int i64 4] 2∧
 Hb w17 k16 #[int i64 3] 2∧
 Hb w17 k13 #[slice a4 k4 k5,slice a5 k6 k7,slice a6 k9 k10,slice a7 k11 k12] 81∧
 Hb w17 k8 #[int i64 2] 2∧
 Hb w17 k3 #[int i64 1] 2→
 CallW Tryz.prog 27 (#[pointer a3,agg #[string s3,int i64 n6,string s4,slice a13 k27 k28]]) w17 fun e12 w18 =>
 ∃b2,e12=returned (Value.bool b2)∧
 ∃l3,KpL l3 w17 w18∧
 (NotIn k26 l3∧
 NotIn k21 l3∧
 NotIn k16 l3∧
 NotIn k13 l3∧
 NotIn k8 l3∧
 NotIn k3 l3)∧
 (Hb w18 k26 #[slice a9 k17 k18,slice a10 k19 k20,slice a11 k22 k23,slice a12 k24 k25] 81∧
 Hb w18 k21 #[int i64 4] 2∧
 Hb w18 k16 #[int i64 3] 2∧
 Hb w18 k13 #[slice a4 k4 k5,slice a5 k6 k7,slice a6 k9 k10,slice a7 k11 k12] 81∧
 Hb w18 k8 #[int i64 2] 2∧
 Hb w18 k3 #[int i64 1] 2→
 R (returned (tuple #[pointer a1,pointer a3,Value.bool b2])) w18)))∧
 (b1=false→
 Hb w11 k13 #[slice a4 k4 k5,slice a5 k6 k7,slice a6 k9 k10,slice a7 k11 k12] 81∧
 Hb w11 k8 #[int i64 2] 2∧
 Hb w11 k3 #[int i64 1] 2→
 R (returned (tuple #[pointer a1,pointer a3,Value.bool false])) w11)))∧
 (¬n4=0→
 R (returned (tuple #[pointer a1,pointer a3,Value.bool false])) w4))∧
 (¬n3=22→
 R (returned (tuple #[pointer a1,pointer a3,Value.bool false])) w4)))∧
 (a1=none→
 R (returned (tuple #[pointer none,pointer none,Value.bool false])) w3))∧
 (n2≠0→
 R (returned (tuple #[pointer none,pointer none,Value.bool false])) w3))∧
 (n1≠0→
 R (returned (tuple #[pointer none,pointer none,Value.bool false])) w3)):Calls Tryz.prog 24 #[] w R :=
 fnc0 (an:={ muts:=[20,27],all:=true }) (args:=[]) Tryz_ok Tryz.func24 (by kernel_rfl) rfl rfl h
theorem lworks_vc{u:Nat}{w:World}{R:Ending→World→Prop}
 (h :
 CallW Tryz.prog 24 #[] w fun e1 w1 =>
 ∃a1 a2 b1,e1=returned (tuple #[pointer a1,pointer a2,Value.bool b1])∧
 ∃l1,KpL l1 w w1∧
 ((!b1)=false→
 ∀k1,w1.heap.size≤k1→
 ∀w2,KpL [] w1 w2→
 Hb w2 k1 #[int i64 1] 2→
 CallW Tryz.prog 26 #[int i64 0,int i64 0,slice (some (Addr.mk k1 0 none)) 1 1] w2 fun e2 w3 =>
 ∃a3 k2 k3 a4 k4 k5,e2=returned (agg #[slice a3 k2 k3,slice a4 k4 k5])∧
 KpL [] w2 w3∧
 ∀k6,w3.heap.size≤k6→
 ∀w4,KpL [] w3 w4→
 Hb w4 k6 #[int i64 2] 2∧
 Hb w4 k1 #[int i64 1] 2→
 CallW Tryz.prog 26 #[int i64 1,int i64 0,slice (some (Addr.mk k6 0 none)) 1 1] w4 fun e3 w5 =>
 ∃a5 k7 k8 a6 k9 k10,e3=returned (agg #[slice a5 k7 k8,slice a6 k9 k10])∧
 KpL [] w4 w5∧
 ∀k11,w5.heap.size≤k11→
 ∀w6,KpL [] w5 w6→
 Hb w6 k11 #[int i64 4] 2∧
 Hb w6 k6 #[int i64 2] 2∧
 Hb w6 k1 #[int i64 1] 2→
 CallW Tryz.prog 26 #[int i64 3,int i64 1,slice (some (Addr.mk k11 0 none)) 1 1] w6 fun e4 w7 =>
 ∃a7 k12 k13 a8 k14 k15,e4=returned (agg #[slice a7 k12 k13,slice a8 k14 k15])∧
 KpL [] w6 w7∧
 ∀k16,w7.heap.size≤k16→
 ∀w8,KpL [] w7 w8→
 Hb w8 k16 #[slice a3 k2 k3,slice a4 k4 k5,slice a5 k7 k8,slice a6 k9 k10,slice a7 k12 k13,slice a8 k14 k15] 81∧
 Hb w8 k11 #[int i64 4] 2∧
 Hb w8 k6 #[int i64 2] 2∧
 Hb w8 k1 #[int i64 1] 2→
 CallW Tryz.prog 28 #[pointer a2,slice (some (Addr.mk k16 0 none)) 3 3] w8 fun e5 w9 =>
 ∃b2,e5=returned (Value.bool b2)∧
 KpL [] w8 w9∧
 ((!b2)=true→
 Hb w9 k16 #[slice a3 k2 k3,slice a4 k4 k5,slice a5 k7 k8,slice a6 k9 k10,slice a7 k12 k13,slice a8 k14 k15] 81∧
 Hb w9 k11 #[int i64 4] 2∧
 Hb w9 k6 #[int i64 2] 2∧
 Hb w9 k1 #[int i64 1] 2→
 R (returned (Value.bool false)) w9)∧
 ((!b2)=false→
 Hb w9 k16 #[slice a3 k2 k3,slice a4 k4 k5,slice a5 k7 k8,slice a6 k9 k10,slice a7 k12 k13,slice a8 k14 k15] 81∧
 Hb w9 k11 #[int i64 4] 2∧
 Hb w9 k6 #[int i64 2] 2∧
 Hb w9 k1 #[int i64 1] 2→
 CallW Tryz.prog 29 #[pointer a2] w9 fun e6 w10 =>
 ∃n1 n2,e6=returned (tuple #[int i64 n1,int i64 n2])∧
 KpL [] w9 w10∧
 (n1=6→
 Hb w10 k16 #[slice a3 k2 k3,slice a4 k4 k5,slice a5 k7 k8,slice a6 k9 k10,slice a7 k12 k13,slice a8 k14 k15] 81∧
 Hb w10 k11 #[int i64 4] 2∧
 Hb w10 k6 #[int i64 2] 2∧
 Hb w10 k1 #[int i64 1] 2→
 R (returned (Value.bool (decide (n2=0)))) w10)∧
 (¬n1=6→
 Hb w10 k16 #[slice a3 k2 k3,slice a4 k4 k5,slice a5 k7 k8,slice a6 k9 k10,slice a7 k12 k13,slice a8 k14 k15] 81∧
 Hb w10 k11 #[int i64 4] 2∧
 Hb w10 k6 #[int i64 2] 2∧
 Hb w10 k1 #[int i64 1] 2→
 R (returned (Value.bool false)) w10)))∧
 ((!b1)=true→
 R (returned (Value.bool false)) w1)):Calls Tryz.prog 9 #[] w R :=
 fnc0 (an:={ muts:=[24],all:=true }) (args:=[]) Tryz_ok Tryz.func9 (by kernel_rfl) rfl rfl h
end Go.Vc
namespace Go.Vc
open Go Go.Proofs
theorem addr_add(ad:Addr)(i j:Nat):(ad.add i).add j=ad.add (i+j):=by
 unfold Addr.add
 by_cases hi:i=0<;>by_cases hj:j=0<;>simp[hi,hj,Nat.add_assoc]
def okDb(n:Nat)(db:List Nm):Prop:=dbE db=0∧db.length≠0∧(fmtSto db).use≤(((n - 2) / 2:Nat):Int)
instance (n:Nat) (db:List Nm):Decidable (okDb n db):=by unfold okDb;infer_instance
end Go.Vc
namespace Go.Vc
open Go Go.Proofs
theorem csorted_eq:∀{xs ys:List Cell},xs.Perm ys→CSorted xs→CSorted ys→xs=ys
 |[],ys,h,_,_=>(List.nil_perm.1 h).symm
 |x::r,[],h,_,_=>absurd h.length_eq (by simp)
 |x::r,y::t,h,hx,hy=>by
  unfold CSorted at hx hy
  rw[List.pairwise_cons]at hx hy
  have hxy:x=y:=by
   rcases List.mem_cons.1 (h.mem_iff.1 (List.mem_cons_self ..)) with e|hm
   ·exact e
   rcases List.mem_cons.1 (h.mem_iff.2 (List.mem_cons_self ..)) with e|hm2
   ·exact e.symm
   have h1:=hy.1 x hm
   have h2:=hx.1 y hm2
   have h3:=cmpL_swap x.at_ y.at_
   omega
  subst hxy
  rw[csorted_eq ((List.perm_cons x).1 h) hx.2 hy.2]
theorem lhas_ok{M Ml G:List Nat}{w:World}{s d n:Nat}{c:Int}{st:Sto}(h:SysL M w s d n c st G){cs:List Cell}{la:Option Addr}{ln lc:Nat}(hl:R (tSl tCell) Ml w cs [.slice la ln lc])(ha:st.arrays.length=1)
 (hcs:∀ys:List Cell,ys.Perm (cellsI st.arrays st.places 0)→CSorted ys→ys=cs)(hsh:∀x∈cs,x.at_.length=2∧x.vals.length=1):
 Calls Tryz.prog 28 #[.pointer (some ⟨s,0,none⟩),.slice la ln lc] w (PureR (.bool true) w):=by
 obtain⟨rfl,_,_⟩:=hl.sl_len
 have hmx:maxSl=140737488355328:=rfl
 refine lhas_vc ⟨(h.db (N:=[]) (by simp)).mono ?_⟩
 rintro e w1 ⟨hk1,out,a,m,q,rfl,hlen,hrel,hR⟩
 obtain⟨rfl,_,_⟩:=hR.sl_len
 have g0:0<out.length:=by omega
 have hcells:out[0].arr.cells=cs:=by
  obtain⟨x,hx,_,_,_,hp,hs⟩:=hrel 0 out[0] (List.getElem?_eq_getElem g0)
  exact hcs _ hp hs
 have get:∀{w':World},KpL [] w1 w'→∃ad b3 p3 q3,a=some ad∧LdA w' (((ad.add (0*4)).add 1).add 2) [.slice b3 p3 q3]∧R (tSl tCell) [] w' cs [.slice b3 p3 q3]:=by
  intro w' hk
  obtain⟨ad,cs',rfl,hv1,_,_,_,hpt⟩:=(hR.kp0 hk).sl_get2 g0
  obtain⟨b1,p1,q1,b2,p2,q2,b3,p3,q3,rfl,_,_,_,x3⟩:=hv1.nm
  rw[hcells]at x3
  refine⟨ad,b3,p3,q3,rfl,?_,x3⟩
  rw[addr_add]
  exact hpt 3 [_] rfl
 refine⟨a,_,q,0,rfl,hk1,fun _=>⟨fun _=>?_,fun hc=>absurd (by omega) hc⟩,fun hc=>absurd rfl hc⟩
 obtain⟨ad,b3,p3,q3,rfl,hld0,hx0⟩:=get (KpL.refl _ _)
 obtain⟨hp3,_,_⟩:=hx0.sl_len
 refine⟨ad,rfl,by omega,by omega,b3,p3,q3,hld0,fun hc=>absurd (by omega) hc,fun _=>?_⟩
 refine⟨fun vs w'=>∃i:Nat,vs=[.int .i64 (i:Int)]∧i≤cs.length∧KpL [] w1 w',fun vs _=>match vs with|[.int _ i]=>cs.length - i.toNat|_=>0,⟨0,rfl,by omega,KpL.refl _ _⟩,?_⟩
 rintro n2 w2 ⟨i,hv,hi,hk2⟩
 simp only[List.cons.injEq,Value.int.injEq,true_and,and_true]at hv
 subst hv
 constructor
 ·intro hlt
  have gi:i<cs.length:=by omega
  obtain⟨ad',c3,r3,t3,had,hld2,hx2⟩:=get hk2
  simp only[Option.some.injEq]at had
  subst had
  obtain⟨hr3,_,_⟩:=hx2.sl_len
  obtain⟨ad3,cs3,rfl,hv3,hld3,_,_⟩:=hx2.sl_get gi
  obtain⟨a4,k7,k8,a5,k9,k10,rfl,y1,y2⟩:=hv3.cell
  obtain⟨ad5,cs5,rfl,hv5,_,_,_,hpt5⟩:=(hl.kp0 (hk1.trans hk2)).sl_get2 gi
  obtain⟨a6,k12,k13,a8,k16,k17,rfl,z1,z2⟩:=hv5.cell
  obtain⟨s1,s2⟩:=hsh cs[i] (List.getElem_mem gi)
  obtain⟨hy1,_,_⟩:=y1.sl_len
  obtain⟨hy2,_,_⟩:=y2.sl_len
  obtain⟨hz1,_,_⟩:=z1.sl_len
  obtain⟨hz2,_,_⟩:=z2.sl_len
  obtain⟨ad4,c4,rfl,v4,l4,_,_⟩:=y1.sl_get (i:=0) (by omega)
  obtain⟨rfl,_⟩:=v4.intD
  obtain⟨ad4',c4',had4,v4',l4',_,_⟩:=y1.sl_get (i:=1) (by omega)
  obtain⟨rfl,_⟩:=v4'.intD
  simp only[Option.some.injEq]at had4
  subst had4
  obtain⟨ad6,c6,rfl,v6,l6,_,_⟩:=z1.sl_get (i:=0) (by omega)
  obtain⟨rfl,_⟩:=v6.intD
  obtain⟨ad6',c6',had6,v6',l6',_,_⟩:=z1.sl_get (i:=1) (by omega)
  obtain⟨rfl,_⟩:=v6'.intD
  simp only[Option.some.injEq]at had6
  subst had6
  obtain⟨ad10,c10,rfl,v10,l10,_,_⟩:=y2.sl_get (i:=0) (by omega)
  obtain⟨rfl,_⟩:=v10.val
  obtain⟨ad12,c12,rfl,v12,l12,_,_⟩:=z2.sl_get (i:=0) (by omega)
  obtain⟨rfl,_⟩:=v12.val
  have hg:Tryz.prog.eqGuardType Tryz.prog.depth 161=false:=by kernel_rfl
  refine⟨ad,rfl,by omega,by omega,_,_,_,hld2,ad3,rfl,by omega,by omega,_,_,_,_,_,_,hld3,fun k11 hk11=>⟨fun _=>⟨ad4,rfl,by omega,by omega,_,l4,ad5,rfl,by omega,hlt,_,_,_,hpt5 0 [_] rfl,ad6,rfl,by omega,by omega,_,l6,fun _=>?_,fun hc=>absurd rfl hc⟩,fun hc=>absurd (by omega) hc⟩⟩
  refine⟨ad4,rfl,by omega,by omega,_,l4',ad5,rfl,by omega,hlt,_,_,_,hpt5 0 [_] rfl,ad6,rfl,by omega,by omega,_,l6',fun _=>⟨fun _=>?_,fun hc=>absurd (by omega) hc⟩,fun hc=>absurd rfl hc⟩
  refine⟨ad10,rfl,by omega,by omega,_,_,_,_,l10,ad5,rfl,by omega,hlt,_,_,_,hpt5 1 [_] rfl,ad12,rfl,by omega,by omega,_,_,_,_,l12,_,pv_neq hg (fun w=>eq161 w _ _ _ _ _ _ _ _),fun hc=>?_,fun _=>⟨ini_i64.2 (by omega),fun w4 hk4 _=>⟨⟨i+1,rfl,by omega,hk2.trans hk4⟩,by dsimp only;omega⟩⟩⟩
  simp at hc
 ·intro _
  exact⟨rfl,hk1.trans hk2⟩
end Go.Vc
namespace Go.Vc
open Go Go.Proofs
theorem three_R{α:Type}{t:Ty α}{w:World}{b T:Nat}{c1 c2 c3:List Value}{x y z:α}{M:List Nat}(hk:w.heap[b]?=some (.cells (c1++(c2++c3)).toArray T (0,0)))(hkM:b∉M)(h1:R t M w x c1)(h2:R t M w y c2)(h3:R t M w z c3):R (tSl t) M w [x,y,z] [.slice (some ⟨b,0,none⟩) 3 3]:=by
 have l1:c1.length=t.sz:=t.len h1
 have l2:c2.length=t.sz:=t.len h2
 refine⟨_,_,rfl,Nat.le_refl _,by show(3:Nat)≤140737488355328;omega,fun _=>⟨b,0,_,T,_,rfl,⟨block_lt hk,hkM⟩,hk,fun j u hu=>?_⟩⟩
 match j,hu with
 |0,hu =>
  simp at hu
  subst hu
  refine⟨_,h1,fun i v hv=>?_⟩
  have hi:i<c1.length:=(List.getElem?_eq_some_iff.1 hv).1
  simp only[List.toList_toArray,Nat.zero_mul,Nat.zero_add]
  rw[List.getElem?_append_left hi]
  exact hv
 |1,hu =>
  simp at hu
  subst hu
  refine⟨_,h2,fun i v hv=>?_⟩
  have hi:i<c2.length:=(List.getElem?_eq_some_iff.1 hv).1
  simp only[List.toList_toArray,Nat.one_mul,Nat.zero_add]
  rw[List.getElem?_append_right (by omega),l1,Nat.add_sub_cancel_left,List.getElem?_append_left hi]
  exact hv
 |2,hu =>
  simp at hu
  subst hu
  refine⟨_,h3,fun i v hv=>?_⟩
  simp only[List.toList_toArray,Nat.zero_add]
  rw[List.getElem?_append_right (by omega),List.getElem?_append_right (by omega)]
  have e:2*t.sz+i - c1.length - c2.length=i:=by omega
  rw[e]
  exact hv
 |j+3,hu=>simp at hu
theorem lputL{M Mc G:List Nat}{w:World}{s d n:Nat}{c:Int}{st:Sto}(h:SysL M w s d n c st G){b:Bt}{ca:Option Addr}{cn cc:Nat}(hc:R (tSl tCell) (G++Mc) w b.changes [.slice ca cn cc]):
 Calls Tryz.prog 27 #[.pointer (some ⟨s,0,none⟩),.agg #[.string b.token,.int .i64 b.stamp,.string b.array,.slice ca cn cc]] w fun e w'=>e=.returned (.bool ((st.putS ((n - 2) / 2) b).1&&decide ((st.putS ((n - 2) / 2) b).2.1=0)))∧
  ∃G',SysL M w' s d n c (st.putS ((n - 2) / 2) b).2.2 G'∧Own G w G' w':=by
 refine lput_vc fun k1 hk1 w1 hw1=>⟨((h.kp0 hw1).put (hc.kp0 hw1)).mono ?_⟩
 rintro e w2 ⟨rfl,G',h2,hO⟩
 have hO':Own G w G' w2:=(Own.of0 hw1).trans hO
 refine⟨_,_,rfl,_,hO.kp,⟨fun hm=>by have:=(h.own_lt k1 hm).1;omega⟩,fun hb=>⟨?_,G',h2,hO'⟩,fun hb=>⟨?_,G',h2,hO'⟩⟩
 ·rw[hb];simp
 ·rw[hb];simp
def nmT:ByteArray:=⟨#[116]⟩
def exC(x y n:Int):Cell:=⟨[x,y],[vNum n]⟩
def exB1:Bt:=⟨⟨#[97]⟩,5,nmT,[exC 0 0 1,exC 1 0 2]⟩
def exB2:Bt:=⟨⟨#[98]⟩,4,nmT,[exC 1 0 3,exC 3 1 4]⟩
def exS0(i:Int):Sto:={ fmtSto [exNm] with id:=i }
def exS1(i:Int):Sto:=(exS0 i).commit exB1
def exS2(i:Int):Sto:=(exS1 i).commit exB2
theorem ex_put1(i:Int):(exS0 i).putS 31 exB1=(true,0,exS1 i):=by
 unfold Sto.putS
 rw[if_neg,if_neg,if_neg]
 ·rfl
 ·show ¬(31:Int)<9+8
  omega
 ·show ¬([]:List Seen).any _=true
  simp
 ·rw[Classical.not_not]
  kernel_rfl
theorem ex_put2(i:Int):(exS1 i).putS 31 exB2=(true,0,exS2 i):=by
 unfold Sto.putS
 rw[if_neg,if_neg,if_neg]
 ·rfl
 ·show ¬(31:Int)<17+8
  omega
 ·show ¬([exB1.seen]:List Seen).any (fun x=>decide (x.token=exB2.token))=true
  decide
 ·rw[Classical.not_not]
  kernel_rfl
theorem ex_cells(i:Int):cellsI (exS2 i).arrays (exS2 i).places 0=[exC 0 0 1,exC 1 0 2,exC 3 1 4]:=by kernel_rfl
theorem ex_db:dbE [exNm]=0:=by kernel_rfl
theorem lmade_ok{M:List Nat}{w:World}(hM:∀b∈M,b<w.heap.size):Calls Tryz.prog 24 #[] w fun e w'=>KpL [] w w'∧∃d s G i,e=.returned (.tuple #[.pointer (some ⟨d,0,none⟩),.pointer (some ⟨s,0,none⟩),.bool true])∧SysL M w' s d 64 1 (exS2 i) G∧∀b∈G,w.heap.size≤b:=by
 have hmx:maxSl=140737488355328:=rfl
 refine lmade_vc (u:=0) ⟨(newDisk_ok (n:=64) hM (by omega) (by omega)).mono ?_⟩
 rintro e w1 ⟨d,Fd,rfl,hk1,hD,hnew⟩
 refine⟨_,_,rfl,hk1,⟨(lexample_ok (M:=[]) (by simp)).mono ?_⟩⟩
 rintro e w2 ⟨a2,n2,c2,rfl,hk2,hR⟩
 refine⟨_,_,_,rfl,hk2,⟨(fmtL (hD.kp0 hk2) (by omega) (by omega) hR (by decide)).mono ?_⟩⟩
 intro e w3 hh
 rw[if_neg (by rw[ex_db];simp),if_neg (by show ¬(31:Int)<9;omega)]at hh
 obtain⟨s,G,i,rfl,hS,hO⟩:=hh
 have hnew2:∀b∈Fd,w.heap.size≤b:=hnew
 have k03:KpL [] w w3:=(hk1.trans hk2).more hO.kp fun b hb=>.inr (hnew2 b hb)
 have hG:∀b∈G,w.heap.size≤b:=fun b hb=>(hO.new b hb).elim (hnew2 b) fun hge=>Nat.le_trans (hk1.trans hk2).size hge
 refine⟨_,_,rfl,Fd,hO.kp,fun _=>⟨fun _=>⟨fun _=>⟨fun hc=>(by cases hc),fun _=>?_⟩,fun hc=>(by cases hc)⟩,fun hc=>absurd rfl hc⟩,fun hc=>absurd rfl hc⟩
 refine⟨hS.room.mono ?_⟩
 rintro e w4 ⟨rfl,hk4⟩
 refine⟨_,_,rfl,hk4,fun _=>⟨fun _=>?_,fun hc=>absurd rfl hc⟩,fun hc=>absurd (show(((64 - 2) / 2:Nat):Int) - 9=22 from rfl) hc⟩
 have hS4:=hS.kp0 hk4
 have s4:=hk4.size
 have gl4:∀b∈G,b<w4.heap.size:=fun b hb=>(hS4.own_lt b hb).1
 intro k3 hk3 w5 hw5 hkn5
 have gl5:∀b∈G,b<w5.heap.size:=fun b hb=>Nat.lt_of_lt_of_le (gl4 b hb) hw5.size
 refine⟨(lat_ok (M:=G) gl5 (x:=0) (y:=0) (ini_i64.2 (by omega)) (ini_i64.2 (by omega)) (one_R (t:=tI .i64) (x:=(1:Int)) (M:=[]) hkn5 (by simp) ⟨rfl,ini_i64.2 (by omega)⟩)).mono ?_⟩
 rintro e w6 ⟨a4,k4,k5,a5,k6,k7,rfl,hk6,hc1⟩
 refine⟨_,_,_,_,_,_,rfl,hk6,fun k8 hk8 w7 hw7 hkn7=>?_⟩
 have gl7:∀b∈G,b<w7.heap.size:=fun b hb=>Nat.lt_of_lt_of_le (gl5 b hb) (hk6.trans hw7).size
 refine⟨(lat_ok (M:=G) gl7 (x:=1) (y:=0) (ini_i64.2 (by omega)) (ini_i64.2 (by omega)) (one_R (t:=tI .i64) (x:=(2:Int)) (M:=[]) hkn7.1 (by simp) ⟨rfl,ini_i64.2 (by omega)⟩)).mono ?_⟩
 rintro e w8 ⟨a6,k9,k10,a7,k11,k12,rfl,hk8',hc2⟩
 refine⟨_,_,_,_,_,_,rfl,hk8',fun k13 hk13 w9 hw9 hkn9=>⟨(lbatch_ok w9 _ _ _ _ _).mono ?_⟩⟩
 rintro e w10 ⟨rfl,hk10⟩
 refine⟨_,_,_,_,_,_,rfl,hk10,fun hkn10=>?_⟩
 have k410:KpL [] w4 w10:=((((hw5.trans hk6).trans hw7).trans hk8').trans hw9).trans hk10
 have hS10:=hS4.kp0 k410
 have s8:w4.heap.size≤w8.heap.size:=(((hw5.trans hk6).trans hw7).trans hk8').size
 have hb1:R (tSl tCell) (G++[]) w10 exB1.changes [.slice (some ⟨k13,0,none⟩) 2 2]:=by
  rw[List.append_nil]
  exact pair_R (t:=tCell) (c1:=[_,_]) (c2:=[_,_]) hkn10.1 (fun hm=>by have:=gl4 _ hm;omega) (hc1.kp0 (((hw7.trans hk8').trans hw9).trans hk10)) (hc2.kp0 (hw9.trans hk10))
 refine⟨(lputL (st:=exS0 i) (b:=exB1) hS10 hb1).mono ?_⟩
 rintro e w11 ⟨rfl,G1,hS11,hO11⟩
 have e31:(64 - 2) / 2=31:=rfl
 rw[e31,ex_put1]at hS11
 rw[e31,ex_put1]
 have gno:∀k,w4.heap.size≤k→k∉G:=fun k hk hm=>by have:=gl4 _ hm;omega
 have k011:KpL [] w w11:=((k03.trans hk4).trans k410).more hO11.kp fun b hb=>.inr (hG b hb)
 have hG1:∀b∈G1,w.heap.size≤b:=fun b hb=>(hO11.new b hb).elim (hG b) fun hge=>Nat.le_trans ((k03.trans hk4).trans k410).size hge
 have s5:=hw5.size
 have s6:=hk6.size
 have s7:=hw7.size
 refine⟨_,rfl,G,hO11.kp,⟨⟨gno _ (by omega)⟩,⟨gno _ (by omega)⟩,⟨gno _ (by omega)⟩⟩,fun _=>?_,fun hc=>(by simp at hc)⟩
 have gl11:∀b∈G1,b<w11.heap.size:=fun b hb=>(hS11.own_lt b hb).1
 intro k16 hk16 w12 hw12 hkn12
 have gl12:∀b∈G1,b<w12.heap.size:=fun b hb=>Nat.lt_of_lt_of_le (gl11 b hb) hw12.size
 refine⟨(lat_ok (M:=G1) gl12 (x:=1) (y:=0) (ini_i64.2 (by omega)) (ini_i64.2 (by omega)) (one_R (t:=tI .i64) (x:=(3:Int)) (M:=[]) hkn12.1 (by simp) ⟨rfl,ini_i64.2 (by omega)⟩)).mono ?_⟩
 rintro e w13 ⟨a9,k17,k18,a10,k19,k20,rfl,hk13',hc3⟩
 refine⟨_,_,_,_,_,_,rfl,hk13',fun k21 hk21 w14 hw14 hkn14=>?_⟩
 have gl14:∀b∈G1,b<w14.heap.size:=fun b hb=>Nat.lt_of_lt_of_le (gl12 b hb) (hk13'.trans hw14).size
 refine⟨(lat_ok (M:=G1) gl14 (x:=3) (y:=1) (ini_i64.2 (by omega)) (ini_i64.2 (by omega)) (one_R (t:=tI .i64) (x:=(4:Int)) (M:=[]) hkn14.1 (by simp) ⟨rfl,ini_i64.2 (by omega)⟩)).mono ?_⟩
 rintro e w15 ⟨a11,k22,k23,a12,k24,k25,rfl,hk15,hc4⟩
 refine⟨_,_,_,_,_,_,rfl,hk15,fun k26 hk26 w16 hw16 hkn16=>⟨(lbatch_ok w16 _ _ _ _ _).mono ?_⟩⟩
 rintro e w17 ⟨rfl,hk17⟩
 refine⟨_,_,_,_,_,_,rfl,hk17,fun hkn17=>?_⟩
 have k1117:KpL [] w11 w17:=((((hw12.trans hk13').trans hw14).trans hk15).trans hw16).trans hk17
 have hS17:=hS11.kp0 k1117
 have s15:w11.heap.size≤w15.heap.size:=(((hw12.trans hk13').trans hw14).trans hk15).size
 have hb2:R (tSl tCell) (G1++[]) w17 exB2.changes [.slice (some ⟨k26,0,none⟩) 2 2]:=by
  rw[List.append_nil]
  exact pair_R (t:=tCell) (c1:=[_,_]) (c2:=[_,_]) hkn17.1 (fun hm=>by have:=gl11 _ hm;omega) (hc3.kp0 (((hw14.trans hk15).trans hw16).trans hk17)) (hc4.kp0 (hw16.trans hk17))
 refine⟨(lputL (st:=exS1 i) (b:=exB2) hS17 hb2).mono ?_⟩
 rintro e w18 ⟨rfl,G2,hS18,hO18⟩
 rw[e31,ex_put2]at hS18
 rw[e31,ex_put2]
 have s12:=hw12.size
 have s13:=hk13'.size
 have s14:=hw14.size
 have s1011:=hO11.kp.size
 have s9:=hw9.size
 have s10:=hk10.size
 have s8':=hk8'.size
 have l13:=block_lt hkn10.1
 have l8:=block_lt hkn10.2.1
 have l3:=block_lt hkn10.2.2
 have gno1:∀k,w11.heap.size≤k→k∉G1:=fun k hk hm=>by have:=gl11 _ hm;omega
 have gno2:∀k,w4.heap.size≤k→k<w10.heap.size→k∉G1:=fun k hk hk' hm=>(hO11.new k hm).elim (gno k hk) fun hge=>by omega
 have fin:KpL [] w w18∧∀b∈G2,w.heap.size≤b:=⟨(k011.trans k1117).more hO18.kp fun b hb=>.inr (hG1 b hb),fun b hb=>(hO18.new b hb).elim (hG1 b) fun hge=>Nat.le_trans (k011.trans k1117).size hge⟩
 refine⟨_,rfl,G1,hO18.kp,⟨⟨gno1 _ (by omega)⟩,⟨gno1 _ (by omega)⟩,⟨gno1 _ (by omega)⟩,⟨gno2 _ (by omega) l13⟩,⟨gno2 _ (by omega) l8⟩,⟨gno2 _ (by omega) l3⟩⟩,fun _=>⟨fin.1,d,s,G2,i,by simp,hS18,fin.2⟩⟩
theorem lworks_ok(w:World):Calls Tryz.prog 9 #[] w (PureR (.bool true) w):=by
 refine lworks_vc (u:=0) ⟨(lmade_ok (M:=[]) (by simp)).mono ?_⟩
 rintro e w1 ⟨hk1,d,s,G,i,rfl,hS,hG⟩
 refine⟨_,_,_,rfl,[],hk1,fun _=>?_,fun hc=>(by cases hc)⟩
 intro k1 hk1' w2 hw2 hkn2
 refine⟨(lat_ok (M:=[]) (by simp) (x:=0) (y:=0) (ini_i64.2 (by omega)) (ini_i64.2 (by omega)) (one_R (t:=tI .i64) (x:=(1:Int)) (M:=[]) hkn2 (by simp) ⟨rfl,ini_i64.2 (by omega)⟩)).mono ?_⟩
 rintro e w3 ⟨a3,k2,k3,a4,k4,k5,rfl,hk3,hc1⟩
 refine⟨_,_,_,_,_,_,rfl,hk3,fun k6 hk6 w4 hw4 hkn4=>?_⟩
 refine⟨(lat_ok (M:=[]) (by simp) (x:=1) (y:=0) (ini_i64.2 (by omega)) (ini_i64.2 (by omega)) (one_R (t:=tI .i64) (x:=(2:Int)) (M:=[]) hkn4.1 (by simp) ⟨rfl,ini_i64.2 (by omega)⟩)).mono ?_⟩
 rintro e w5 ⟨a5,k7,k8,a6,k9,k10,rfl,hk5,hc2⟩
 refine⟨_,_,_,_,_,_,rfl,hk5,fun k11 hk11 w6 hw6 hkn6=>?_⟩
 refine⟨(lat_ok (M:=[]) (by simp) (x:=3) (y:=1) (ini_i64.2 (by omega)) (ini_i64.2 (by omega)) (one_R (t:=tI .i64) (x:=(4:Int)) (M:=[]) hkn6.1 (by simp) ⟨rfl,ini_i64.2 (by omega)⟩)).mono ?_⟩
 rintro e w7 ⟨a7,k12,k13,a8,k14,k15,rfl,hk7,hc3⟩
 refine⟨_,_,_,_,_,_,rfl,hk7,fun k16 hk16 w8 hw8 hkn8=>?_⟩
 have k18:KpL [] w1 w8:=(((((hw2.trans hk3).trans hw4).trans hk5).trans hw6).trans hk7).trans hw8
 have hcs:R (tSl tCell) [] w8 [exC 0 0 1,exC 1 0 2,exC 3 1 4] [.slice (some ⟨k16,0,none⟩) 3 3] :=
  three_R (t:=tCell) (c1:=[_,_]) (c2:=[_,_]) (c3:=[_,_]) hkn8.1 (by simp) (hc1.kp0 ((((hw4.trans hk5).trans hw6).trans hk7).trans hw8)) (hc2.kp0 ((hw6.trans hk7).trans hw8)) (hc3.kp0 hw8)
 have hsort:CSorted [exC 0 0 1,exC 1 0 2,exC 3 1 4]:=by
  unfold CSorted
  simp only[List.pairwise_cons,List.mem_cons,List.not_mem_nil,or_false,forall_eq_or_imp,forall_eq,List.Pairwise.nil,and_true]
  exact⟨⟨by decide,by decide⟩,by decide,fun _ h=>h.elim⟩
 refine⟨(lhas_ok (hS.kp0 k18) hcs rfl (fun ys hp hs=>csorted_eq (by rw[ex_cells]at hp;exact hp) hs hsort) (by decide)).mono ?_⟩
 rintro e w9 ⟨rfl,hk9⟩
 refine⟨_,rfl,hk9,fun hc=>(by cases hc),fun _ _=>⟨((hS.kp0 k18).kp0 hk9).room.mono ?_⟩⟩
 rintro e w10 ⟨rfl,hk10⟩
 exact⟨_,_,rfl,hk10,fun _ _=>⟨rfl,((hk1.trans k18).trans hk9).trans hk10⟩,fun hc=>absurd (show(((64 - 2) / 2:Nat):Int) - 25=6 from rfl) hc⟩
end Go.Vc
namespace Go.Vc
open Go Go.Proofs
open Go.Value Go.Ending Go.IntKind
set_option maxRecDepth 100000
theorem putN_vc{z:Nat}{tok:ByteArray}{stp:Int}{arn:ByteArray}{ca:Option Addr}{cn cc:Nat}{w:World}{R:Ending→World→Prop}
 (h :
 ∀k1,w.heap.size≤k1→
 ∀w1,KpL [] w w1→
 CallW Tryz.prog 45 #[pointer none] w1 fun e1 w2 =>
 ∃n1,e1=returned (int i64 n1)∧
 KpL [] w1 w2∧
 (n1≠0→
 R (returned (tuple #[Value.bool false,int i64 n1])) w2)∧
 (¬n1≠0→
 CallW Tryz.prog 46 (#[pointer none,agg #[string tok,int i64 stp,string arn,slice ca cn cc]]) w2 fun e2 w3 =>
 ∃n2,e2=returned (int i64 n2)∧
 KpL [] w2 w3∧
 (n2≠0→
 R (returned (tuple #[Value.bool false,int i64 n2])) w3)∧
 (¬n2≠0→
 False))):Calls Tryz.prog 13 #[pointer none,agg #[string tok,int i64 stp,string arn,slice ca cn cc]] w R :=
 fnc0 (an:={}) (args:=[.a (.c (.v (.pointer none))),.a (.agg [.v (.string tok),.v (.int .i64 stp),.v (.string arn),.v (.slice ca cn cc)])]) Tryz_ok Tryz.func13 (by kernel_rfl) rfl rfl h
theorem fmtN_vc{z:Nat}{dba:Option Addr}{dbn dbc:Nat}{w:World}{R:Ending→World→Prop}
 (h :
 ∀k1,w.heap.size≤k1→
 ∀w1,KpL [] w w1→
 CallW Tryz.prog 62 #[pointer none] w1 fun e1 w2 =>
 ∃b1,e1=returned (Value.bool b1)∧
 KpL [] w1 w2∧
 ((!b1)=true→
 R (returned (tuple #[pointer none,int i64 1])) w2)∧
 ((!b1)=false→
 CallW Tryz.prog 42 #[slice dba dbn dbc] w2 fun e2 w3 =>
 ∃n1,e2=returned (int i64 n1)∧
 KpL [] w2 w3∧
 (¬n1≠0→
 ((↑dbn:Int)=(0:Int)→
 R (returned (tuple #[pointer none,int i64 2])) w3)∧
 (¬(↑dbn:Int)=(0:Int)→
 False))∧
 (n1≠0→
 R (returned (tuple #[pointer none,int i64 2])) w3))):Calls Tryz.prog 20 #[pointer none,slice dba dbn dbc] w R :=
 fnc0 (an:={ loops:=[⟨16,[75],[12,76,77,78,79,80,81,82,83,84,85,86,87,88,89,90,91],[]⟩,⟨9,[40],[4,5,7,8,9,10,12,41,42,43,44,45,46,47,48,49,50,51,52,53,54,55,56,57,58,59,60,61,62,63,64,65,66,67,68,69,70,71,72,73,74,75,76,77,78,79,80,81,82,83,84,85,86,87,88,89,90,91,92],[]⟩] }) (args:=[.a (.c (.v (.pointer none))),.a (.c (.v (.slice dba dbn dbc)))]) Tryz_ok Tryz.func20 (by kernel_rfl) rfl rfl h
theorem isN_vc{z:Nat}{w:World}{R:Ending→World→Prop}
 (h :
 ∃b1,Pv Tryz.prog
 (do
 eqGuard BinOp.neq 40 (Operand.tmp 3) (Operand.const (pointer none)) (pointer none) (pointer none)
 binOp BinOp.neq 40 (pointer none) (pointer none))
 (Value.bool b1)∧
 (b1=true→
 False)∧
 (b1=false→
 R (returned (Value.bool false)) w)):Calls Tryz.prog 62 #[pointer none] w R :=
 fnc0 (an:={}) (args:=[.a (.c (.v (.pointer none)))]) Tryz_ok Tryz.func62 (by kernel_rfl) rfl rfl h
theorem syncN_vc{z:Nat}{w:World}{R:Ending→World→Prop}
 (h :
 CallW Tryz.prog 62 #[pointer none] w fun e1 w1 =>
 ∃b1,e1=returned (Value.bool b1)∧
 KpL [] w w1∧
 ((!b1)=true→
 R (returned (int i64 1)) w1)∧
 ((!b1)=false→
 False)):Calls Tryz.prog 37 #[pointer none] w R :=
 fnc0 (an:={}) (args:=[.a (.c (.v (.pointer none)))]) Tryz_ok Tryz.func37 (by kernel_rfl) rfl rfl h
theorem downN_vc{z:Nat}{w:World}{R:Ending→World→Prop}
 (h :
 CallW Tryz.prog 62 #[pointer none] w fun e1 w1 =>
 ∃b1,e1=returned (Value.bool b1)∧
 KpL [] w w1∧
 (b1=true→
 False)∧
 (b1=false→
 R (returned (Value.bool false)) w1)):Calls Tryz.prog 38 #[pointer none] w R :=
 fnc0 (an:={}) (args:=[.a (.c (.v (.pointer none)))]) Tryz_ok Tryz.func38 (by kernel_rfl) rfl rfl h
theorem copyN_vc{z:Nat}{w:World}{R:Ending→World→Prop}
 (h :
 CallW Tryz.prog 62 #[pointer none] w fun e1 w1 =>
 ∃b1,e1=returned (Value.bool b1)∧
 KpL [] w w1∧
 ((!b1)=true→
 R (returned (pointer none)) w1)∧
 ((!b1)=false→
 False)):Calls Tryz.prog 39 #[pointer none] w R :=
 fnc0 (an:={}) (args:=[.a (.c (.v (.pointer none)))]) Tryz_ok Tryz.func39 (by kernel_rfl) rfl rfl h
theorem is0_vc{d:Nat}{fu:Int}{dw:Bool}{wr sy st:Int}{w:World}{R:Ending→World→Prop}
 (hk:Hb w d #[slice none 0 0,slice none 0 0,slice none 0 0,int i64 fu,slice none 0 0,Value.bool dw,int i64 wr,int i64 sy,int i64 st] 99)
 (h :
 R (returned (Value.bool (decide ((0:Int)<(↑(0:Nat):Int))))) w):Calls Tryz.prog 62 #[pointer (some (Addr.mk d 0 none))] w R :=
 fncK (an:={}) (args:=[.a (.c (.loc 0 0))]) (rho:=[d]) (hp:=[(0,99,[.v (.slice none 0 0),.v (.slice none 0 0),.v (.slice none 0 0),.v (.int .i64 fu),.v (.slice none 0 0),.sb dw,.v (.int .i64 wr),.v (.int .i64 sy),.v (.int .i64 st)])]) Tryz_ok Tryz.func62 (by kernel_rfl) rfl rfl hk (by simp) (by simpa using block_lt hk) rfl (by simp) h
end Go.Vc
namespace Go.Vc
open Go Go.Proofs
theorem isN_ok(w:World):Calls Tryz.prog 62 #[.pointer none] w (PureR (.bool false) w):=by
 refine isN_vc (z:=0) ⟨false,⟨fun w=>?_⟩,fun hc=>by simp at hc,fun _=>⟨rfl,KpL.refl _ _⟩⟩
 have hg:Tryz.prog.eqGuardType Tryz.prog.depth 40=false:=by kernel_rfl
 have he:∀w,(Op.equal 40 (.pointer none) (.pointer none)).run Tryz.prog w=.ok true w:=by
  intro w
  unfold Op.equal Op.maxDepth
  rw[Op.equalIn]
  simp only[Sem.run_bind,run_underlying Tryz.underlying40,Result.andThen_ok]
  rfl
 simp[eqGuard,binOp,hg,he]
theorem syncN_ok(w:World):Calls Tryz.prog 37 #[.pointer none] w (PureR (.int .i64 1) w) :=
 syncN_vc (z:=0) ⟨(isN_ok w).mono (by rintro e w1 ⟨rfl,h1⟩;exact⟨_,rfl,h1,fun _=>⟨rfl,h1⟩,fun hc=>(by cases hc)⟩)⟩
theorem downN_ok(w:World):Calls Tryz.prog 38 #[.pointer none] w (PureR (.bool false) w) :=
 downN_vc (z:=0) ⟨(isN_ok w).mono (by rintro e w1 ⟨rfl,h1⟩;exact⟨_,rfl,h1,fun hc=>(by cases hc),fun _=>⟨rfl,h1⟩⟩)⟩
theorem copyN_ok(w:World):Calls Tryz.prog 39 #[.pointer none] w (PureR (.pointer none) w) :=
 copyN_vc (z:=0) ⟨(isN_ok w).mono (by rintro e w1 ⟨rfl,h1⟩;exact⟨_,rfl,h1,fun _=>⟨rfl,h1⟩,fun hc=>(by cases hc)⟩)⟩
theorem fmtN_ok(w:World)(a:Option Addr)(n c:Nat):Calls Tryz.prog 20 #[.pointer none,.slice a n c] w (PureR (.tuple #[.pointer none,.int .i64 1]) w) :=
 fmtN_vc (z:=0) fun k1 hk1 w1 hw1=>⟨(isN_ok w1).mono (by rintro e w2 ⟨rfl,h1⟩;exact⟨_,rfl,h1,fun _=>⟨rfl,hw1.trans h1⟩,fun hc=>(by cases hc)⟩)⟩
theorem putN_ok(w:World)(t a:ByteArray)(st:Int)(ca:Option Addr)(cn cc:Nat):Calls Tryz.prog 13 #[.pointer none,.agg #[.string t,.int .i64 st,.string a,.slice ca cn cc]] w (PureR (.tuple #[.bool false,.int .i64 1]) w) :=
 putN_vc (z:=0) fun k1 hk1 w1 hw1=>⟨(readyN_ok w1).mono (by rintro e w2 ⟨rfl,h1⟩;exact⟨_,rfl,h1,fun _=>⟨rfl,hw1.trans h1⟩,fun hc=>absurd (by omega) hc⟩)⟩
theorem open0_ok{w:World}{d:Nat}(h:w.heap[d]?=some (.cells #[.slice none 0 0,.slice none 0 0,.slice none 0 0,.int .i64 0,.slice none 0 0,.bool false,.int .i64 0,.int .i64 0,.int .i64 0] 99 (0,0))):
 Calls Tryz.prog 15 #[.pointer (some ⟨d,0,none⟩)] w (PureR (.tuple #[.pointer none,.int .i64 1]) w):=by
 have his:Calls Tryz.prog 62 #[.pointer (some ⟨d,0,none⟩)] w (PureR (.bool false) w):=is0_vc h ⟨rfl,KpL.refl _ _⟩
 refine sOpen_vc ⟨his.mono ?_⟩
 rintro e w1 ⟨rfl,h1⟩
 exact⟨_,rfl,h1,fun _=>⟨rfl,h1⟩,fun hc=>(by cases hc)⟩
def ch(t:ByteArray)(s:Int)(l:List Cell):Bt:=⟨t,s,nmT,l⟩
def exB3:Bt:=ch ⟨#[99]⟩ 5 [⟨[0,0],[]⟩]
def exB4:Bt:=ch ⟨#[100]⟩ 5 [exC 0 0 7]
def exS3(i:Int):Sto:=(exS2 i).commit exB3
def exS4(i:Int):Sto:={ exS3 i with use:=(exS3 i).low }
def exS5(i:Int):Sto:=(exS4 i).commit exB4
theorem ex_a(i:Int):(exS2 i).putS 31 (ch ⟨#[97]⟩ 9 [exC 0 0 8])=(false,0,exS2 i):=by kernel_rfl
theorem ex_c(i:Int):(exS2 i).putS 31 exB3=(true,0,exS3 i):=by kernel_rfl
theorem ex_d(i:Int):(exS3 i).putS 31 (ch ⟨#[100]⟩ 1 [exC 0 1 1])=(false,18,exS3 i):=by kernel_rfl
theorem ex_d2(i:Int):(exS4 i).putS 31 exB4=(true,0,exS5 i):=by kernel_rfl
theorem ex_D(i:Int):(exS5 i).putS 31 (ch ⟨#[68]⟩ 1 [exC 0 0 1])=(false,11,exS5 i):=by kernel_rfl
theorem ex_e1(i:Int):(exS5 i).putS 31 (ch ⟨#[101]⟩ (-1) [exC 0 0 1])=(false,3,exS5 i):=by kernel_rfl
theorem ex_e2(i:Int):(exS5 i).putS 31 (ch ⟨#[101]⟩ 1 [])=(false,9,exS5 i):=by kernel_rfl
theorem ex_e3(i:Int):(exS5 i).putS 31 (ch ⟨#[101]⟩ 1 [exC 4 0 1])=(false,3,exS5 i):=by kernel_rfl
theorem ex_u3(i:Int):(exS3 i).use=30:=by kernel_rfl
theorem ex_u4(i:Int):(exS4 i).use=21:=by kernel_rfl
theorem ex_t4(i:Int):(exS4 i).batches.map (·.token)=[⟨#[97]⟩,⟨#[98]⟩,⟨#[99]⟩]:=by kernel_rfl
theorem ex_c3(i:Int):cellsI (exS3 i).arrays (exS3 i).places 0=[exC 1 0 2,exC 3 1 4]:=by kernel_rfl
theorem ex_c5(i:Int):cellsI (exS5 i).arrays (exS5 i).places 0=[exC 0 0 7,exC 1 0 2,exC 3 1 4]:=by kernel_rfl
end Go.Vc
namespace Go.Vc
open Go Go.Proofs
theorem SysL.opn2{M G:List Nat}{w:World}{s d n:Nat}{c:Int}{st:Sto}(h:SysL M w s d n c st G)(hcl:c<900000):Calls Tryz.prog 15 #[.pointer (some ⟨d,0,none⟩)] w fun e w'=>∃s' st' G',e=.returned (.tuple #[.pointer (some ⟨s',0,none⟩),.int .i64 0])∧Like st' st∧
 SysL M w' s' d n (c+1) st' G'∧Own G w G' w'∧∀w'',KpL [] w' w''→Calls Tryz.prog 16 #[.pointer (some ⟨s,0,none⟩)] w'' (PureR (.tuple #[.slice none 0 0,.int .i64 17]) w''):=by
 obtain⟨l,num,nxt,k,F,Fd,hS,hL,rfl,hc1,hk,rfl⟩:=h
 have hn10:=hL.n10
 have hk0:=hL.k0
 obtain⟨o1,o2,o3,o4,o5,o6,o7,bs,ps,bt,hrec,hv,hb,hbl,hfin⟩:=hL.opened
 refine(sOpen_ok (e:=nxt) hS.dk (by omega) o2 (by rw[o3];simp) (by omega) (by omega) (by rw[o1,o6];exact ini_i64.2 (by omega)) (by rw[o1];exact hrec) hv hb hbl).mono ?_
 intro e w' hh
 rw[o1]at hh
 rw[if_neg (by simp[o5])]at hh
 obtain⟨s',l',F',Fd',rfl,h',hO⟩:=hh
 obtain⟨g1,g2⟩:=hfin ((k.clear num nxt).2.st+1) (by rw[o6])
 refine⟨s',_,F'++Fd',rfl,g1,⟨l',num,nxt,_,F',Fd',h'.step (KpL.refl [] w') (by simp) (fun b hb=>⟨.inl (by simp[hb]),h'.mlt b (by simp[hb])⟩),g2,o7,by omega,by dsimp only;rw[o6];omega,rfl⟩,⟨hO.kp.mono fun x hx=>by simp[hx],fun x hx=>(hO.new x hx).imp (fun h=>by simp[h]) id⟩,fun w'' hk''=>?_⟩
 have hsto:=(hS.sto.step (M':=[]) hO.kp (fun b hb=>by simp[hb]) (by simp)).kp0 hk''
 have hid:=hL.id
 refine(sDB_ok hsto (h'.dk.kp0 hk'') hL.v (M:=[]) (by simp)).mono ?_
 rintro e w3 ⟨h1,h2⟩
 have e17:readyE st { (k.clear num nxt).2 with st:=(k.clear num nxt).2.st+1 }=17:=by
  unfold readyE
  rw[if_pos (.inr (by dsimp only;rw[o6];omega))]
 rw[e17,if_pos (by omega)]at h2
 exact⟨h2,h1⟩
theorem at1_ok{M:List Nat}{w:World}(hM:∀b∈M,b<w.heap.size){x y n:Int}(hx:(-100≤x∧x≤100)∧(-100≤y∧y≤100)∧(-100≤n∧n≤100)){Q:Nat→World→Option Addr→Nat→Nat→Option Addr→Nat→Nat→Prop}
 (h:∀k1 w3 a3 k2 k3 a4 k4 k5,w.heap.size≤k1→k1<w3.heap.size→KpL [] w w3→R tCell M w3 (exC x y n) [.slice a3 k2 k3,.slice a4 k4 k5]→Q k1 w3 a3 k2 k3 a4 k4 k5):
 ∀k1,w.heap.size≤k1→∀w2,KpL [] w w2→Hb w2 k1 #[.int .i64 n] 2→CallW Tryz.prog 26 #[.int .i64 x,.int .i64 y,.slice (some (Addr.mk k1 0 none)) 1 1] w2 fun e w3=>∃a3 k2 k3 a4 k4 k5,e=.returned (.agg #[.slice a3 k2 k3,.slice a4 k4 k5])∧KpL [] w2 w3∧Q k1 w3 a3 k2 k3 a4 k4 k5:=by
 obtain⟨h1,h2,h3⟩:=hx
 intro k1 hk1 w2 hw2 hkn
 have l1:=block_lt hkn
 refine⟨(lat_ok (M:=M) (fun b hb=>Nat.lt_of_lt_of_le (hM b hb) hw2.size) (x:=x) (y:=y) (ini_i64.2 (by omega)) (ini_i64.2 (by omega)) (one_R (t:=tI .i64) (x:=n) (M:=[]) hkn (by simp) ⟨rfl,ini_i64.2 (by omega)⟩)).mono ?_⟩
 rintro e w3 ⟨a3,k2,k3,a4,k4,k5,rfl,hk3,hc⟩
 exact⟨_,_,_,_,_,_,rfl,hk3,h _ _ _ _ _ _ _ _ hk1 (Nat.lt_of_lt_of_le l1 hk3.size) (hw2.trans hk3) hc⟩
theorem at0_ok{M:List Nat}{w:World}(hM:∀b∈M,b<w.heap.size){x y:Int}(hx:(-100≤x∧x≤100)∧(-100≤y∧y≤100)){Q:World→Option Addr→Nat→Nat→Option Addr→Nat→Nat→Prop}
 (h:∀w3 a3 k2 k3 a4 k4 k5,KpL [] w w3→R tCell M w3 ⟨[x,y],[]⟩ [.slice a3 k2 k3,.slice a4 k4 k5]→Q w3 a3 k2 k3 a4 k4 k5):
 CallW Tryz.prog 26 #[.int .i64 x,.int .i64 y,.slice none 0 0] w fun e w3=>∃a3 k2 k3 a4 k4 k5,e=.returned (.agg #[.slice a3 k2 k3,.slice a4 k4 k5])∧KpL [] w w3∧Q w3 a3 k2 k3 a4 k4 k5:=by
 obtain⟨h1,h2⟩:=hx
 refine⟨(lat_ok (M:=M) hM (x:=x) (y:=y) (ini_i64.2 (by omega)) (ini_i64.2 (by omega)) (R.sl_nil (tI .i64) [] w none 0)).mono ?_⟩
 rintro e w3 ⟨a3,k2,k3,a4,k4,k5,rfl,hk3,hc⟩
 exact⟨_,_,_,_,_,_,rfl,hk3,h _ _ _ _ _ _ _ hk3 hc⟩
theorem bt1_ok{M:List Nat}{w:World}(hM:∀b∈M,b<w.heap.size){c:Cell}{a3:Option Addr}{k2 k3:Nat}{a4:Option Addr}{k4 k5:Nat}(hc:R tCell M w c [.slice a3 k2 k3,.slice a4 k4 k5]){tok:ByteArray}{stamp:Int}{Q:Nat→World→ByteArray→Int→ByteArray→Option Addr→Nat→Nat→Prop}
 (h:∀k6 w5,w.heap.size≤k6→k6<w5.heap.size→KpL [] w w5→R (tSl tCell) M w5 [c] [.slice (some ⟨k6,0,none⟩) 1 1]→Q k6 w5 tok stamp nmT (some ⟨k6,0,none⟩) 1 1):
 ∀k6,w.heap.size≤k6→∀w4,KpL [] w w4→Hb w4 k6 #[.slice a3 k2 k3,.slice a4 k4 k5] 81→CallW Tryz.prog 25 (#[.string tok,.int .i64 stamp,.slice (some (Addr.mk k6 0 none)) 1 1]) w4 fun e w5=>∃s1 n1 s2 a5 k7 k8,e=.returned (.agg #[.string s1,.int .i64 n1,.string s2,.slice a5 k7 k8])∧KpL [] w4 w5∧Q k6 w5 s1 n1 s2 a5 k7 k8:=by
 intro k6 hk6 w4 hw4 hkn
 have l6:=block_lt hkn
 refine⟨(lbatch_ok w4 _ _ _ _ _).mono ?_⟩
 rintro e w5 ⟨rfl,hk5⟩
 exact⟨_,_,_,_,_,_,rfl,hk5,h _ _ hk6 (Nat.lt_of_lt_of_le l6 hk5.size) (hw4.trans hk5) (one_R (t:=tCell) (cs:=[_,_]) ((hk5.blk _ l6 (by simp)).trans hkn) (fun hm=>by have:=hM k6 hm;omega) (hc.kp0 (hw4.trans hk5)))⟩
structure KS (w w':World) (M:List Nat) (s d:Nat) (c:Int) (st:Sto) (G:List Nat):Prop where
 k:KpL [] w w'
 h:SysL M w' s d 64 c st G
 f:∀b∈G,w.heap.size≤b
section
variable {w w' w'':World} {M G:List Nat} {s d:Nat} {c:Int} {st:Sto}
theorem KS.lt(h:KS w w' M s d c st G):∀b∈G,b<w'.heap.size:=fun b hb=>(h.h.own_lt b hb).1
theorem KS.kp(h:KS w w' M s d c st G)(hk:KpL [] w' w''):KS w w'' M s d c st G:=⟨h.k.trans hk,h.h.kp0 hk,h.f⟩
theorem KS.grow(h:KS w w' M s d c st G)(hk:KpL [] w' w''){N:List Nat}(hN:∀b∈N,w'.heap.size≤b∧b<w''.heap.size):KS w w'' (N++M) s d c st G :=
 ⟨h.k.trans hk,h.h.step hk (by simp) (fun b hb=>by
   rcases List.mem_append.1 hb with hb|hb
   ·exact⟨.inr (hN b hb).1,(hN b hb).2⟩
   ·exact⟨.inl hb,Nat.lt_of_lt_of_le (h.h.mlt b hb) hk.size⟩),h.f⟩
theorem KS.own(h:KS w w' M s d c st G){c':Int}{st':Sto}{G':List Nat}(hO:Own G w' G' w''){s':Nat}(h':SysL M w'' s' d 64 c' st' G'):KS w w'' M s' d c' st' G' :=
 ⟨h.k.more hO.kp fun b hb=>.inr (h.f b hb),h',fun b hb=>(hO.new b hb).elim (h.f b) fun hge=>Nat.le_trans h.k.size hge⟩
theorem KS.nin(h:KS w w' M s d c st G):∀k∈M,NotIn k G:=fun k hk=>⟨fun hm=>(h.h.own_lt k hm).2 hk⟩
theorem KS.putE(h:KS w w' M s d c st G){tok:ByteArray}{stamp:Int}{cs:List Cell}{ok:Bool}{er:Int}{st':Sto}(hp:st.putS 31 (ch tok stamp cs)=(ok,er,st')){ca:Option Addr}{cn cc:Nat}(hc:R (tSl tCell) G w' cs [.slice ca cn cc]){NI:List Nat→Prop}{Q:Bool→Int→World→Prop}
 (hN:∀l,(∀k∈M,NotIn k l)→NI l)(hC:∀w6 G',KS w w6 M s d c st' G'→Q ok er w6):
 CallW Tryz.prog 13 (#[.pointer (some ⟨s,0,none⟩),.agg #[.string tok,.int .i64 stamp,.string nmT,.slice ca cn cc]]) w' fun e w6=>∃b n,e=.returned (.tuple #[.bool b,.int .i64 n])∧∃l,KpL l w' w6∧NI l∧Q b n w6:=by
 refine⟨(h.h.put (b:=ch tok stamp cs) (Mc:=[]) (by rw[List.append_nil];exact hc)).mono ?_⟩
 rintro e w6 ⟨rfl,G',h',hO⟩
 have e31:(64 - 2) / 2=31:=rfl
 rw[e31,hp]at h'
 rw[e31,hp]
 exact⟨_,_,rfl,G,hO.kp,hN _ h.nin,hC _ _ (h.own hO h')⟩
theorem KS.lputE(h:KS w w' M s d c st G){tok:ByteArray}{stamp:Int}{cs:List Cell}{st':Sto}(hp:st.putS 31 (ch tok stamp cs)=(true,0,st')){ca:Option Addr}{cn cc:Nat}(hc:R (tSl tCell) G w' cs [.slice ca cn cc]){NI:List Nat→Prop}{Q:Bool→World→Prop}
 (hN:∀l,(∀k∈M,NotIn k l)→NI l)(hC:∀w6 G',KS w w6 M s d c st' G'→Q true w6):
 CallW Tryz.prog 27 (#[.pointer (some ⟨s,0,none⟩),.agg #[.string tok,.int .i64 stamp,.string nmT,.slice ca cn cc]]) w' fun e w6=>∃b,e=.returned (.bool b)∧∃l,KpL l w' w6∧NI l∧Q b w6:=by
 refine⟨(lputL (b:=ch tok stamp cs) (Mc:=[]) h.h (by rw[List.append_nil];exact hc)).mono ?_⟩
 rintro e w6 ⟨rfl,G',h',hO⟩
 have e31:(64 - 2) / 2=31:=rfl
 rw[e31,hp]at h'
 rw[e31,hp]
 exact⟨_,rfl,G,hO.kp,hN _ h.nin,hC _ _ (h.own hO h')⟩
theorem KS.has(h:KS w w' M s d c st G){cs:List Cell}{vs:Array Value}{m:Nat}(hR:∀k w4,KpL [] w' w4→Hb w4 k vs 81→R (tSl tCell) [] w4 cs [.slice (some ⟨k,0,none⟩) m m])(ha:st.arrays.length=1)
 (hp:(cellsI st.arrays st.places 0).Perm cs)(hs:CSorted cs)(hsh:∀x∈cs,x.at_.length=2∧x.vals.length=1){Q:Nat→Bool→World→Prop}(hQ:∀k w5,KS w w5 (k::M) s d c st G→Q k true w5):
 ∀k,w'.heap.size≤k→∀w4,KpL [] w' w4→Hb w4 k vs 81→CallW Tryz.prog 28 #[.pointer (some ⟨s,0,none⟩),.slice (some (Addr.mk k 0 none)) m m] w4 fun e w5=>∃b,e=.returned (.bool b)∧KpL [] w4 w5∧Q k b w5:=by
 intro k hk w4 hw4 hkn
 have lk:=block_lt hkn
 refine⟨(lhas_ok (h.h.kp0 hw4) (hR k w4 hw4 hkn) ha (fun ys hq hs'=>csorted_eq (hq.trans hp) hs' hs) hsh).mono ?_⟩
 rintro e w5 ⟨rfl,hk5⟩
 refine⟨_,rfl,hk5,hQ _ _ ?_⟩
 exact(h.grow hw4 (N:=[k]) fun b hb=>by simp at hb;subst hb;exact⟨hk,lk⟩).kp hk5
end
theorem sort3:CSorted [exC 0 0 7,exC 1 0 2,exC 3 1 4]:=by
 unfold CSorted
 simp only[List.pairwise_cons,List.mem_cons,List.not_mem_nil,or_false,forall_eq_or_imp,forall_eq,List.Pairwise.nil,and_true]
 exact⟨⟨by decide,by decide⟩,by decide,fun _ h=>h.elim⟩
theorem sort2:CSorted [exC 1 0 2,exC 3 1 4]:=(List.pairwise_cons.1 sort3).2
end Go.Vc
namespace Go.Vc
open Go Go.Proofs
open Go.Value Go.Ending Go.IntKind
set_option maxRecDepth 100000
theorem gKnown_vc{u:Nat}{w:World}{R:Ending→World→Prop}
 (h :
 CallW Tryz.prog 24 #[] w fun e1 w1 =>
 ∃a1 a2 b1,e1=returned (tuple #[pointer a1,pointer a2,Value.bool b1])∧
 ∃l1,KpL l1 w w1∧
 ((!b1)=true→
 R (returned (Value.bool false)) w1)∧
 ((!b1)=false→
 ∀k1,w1.heap.size≤k1→
 ∀w2,KpL [] w1 w2→
 Hb w2 k1 #[int i64 8] 2→
 CallW Tryz.prog 26 #[int i64 0,int i64 0,slice (some (Addr.mk k1 0 none)) 1 1] w2 fun e2 w3 =>
 ∃a3 k2 k3 a4 k4 k5,e2=returned (agg #[slice a3 k2 k3,slice a4 k4 k5])∧
 KpL [] w2 w3∧
 ∀k6,w3.heap.size≤k6→
 ∀w4,KpL [] w3 w4→
 Hb w4 k6 #[slice a3 k2 k3,slice a4 k4 k5] 81→
 CallW Tryz.prog 25 (#[string (ByteArray.mk #[97]),int i64 9,slice (some (Addr.mk k6 0 none)) 1 1]) w4 fun e3 w5 =>
 ∃s1 n1 s2 a5 k7 k8,e3=returned (agg #[string s1,int i64 n1,string s2,slice a5 k7 k8])∧
 KpL [] w4 w5∧
 CallW Tryz.prog 13 (#[pointer a2,agg #[string s1,int i64 n1,string s2,slice a5 k7 k8]]) w5 fun e4 w6 =>
 ∃b2 n2,e4=returned (tuple #[Value.bool b2,int i64 n2])∧
 ∃l2,KpL l2 w5 w6∧
 (NotIn k6 l2∧
 NotIn k1 l2)∧
 (b2=false→
 (¬n2≠0→
 CallW Tryz.prog 26 #[int i64 0,int i64 0,slice none 0 0] w6 fun e5 w7 =>
 ∃a6 k9 k10 a7 k11 k12,e5=returned (agg #[slice a6 k9 k10,slice a7 k11 k12])∧
 KpL [] w6 w7∧
 ∀k13,w7.heap.size≤k13→
 ∀w8,KpL [] w7 w8→
 Hb w8 k13 #[slice a6 k9 k10,slice a7 k11 k12] 81→
 CallW Tryz.prog 25 (#[string (ByteArray.mk #[99]),int i64 5,slice (some (Addr.mk k13 0 none)) 1 1]) w8 fun e6 w9 =>
 ∃s3 n3 s4 a8 k14 k15,e6=returned (agg #[string s3,int i64 n3,string s4,slice a8 k14 k15])∧
 KpL [] w8 w9∧
 CallW Tryz.prog 27 (#[pointer a2,agg #[string s3,int i64 n3,string s4,slice a8 k14 k15]]) w9 fun e7 w10 =>
 ∃b3,e7=returned (Value.bool b3)∧
 ∃l3,KpL l3 w9 w10∧
 (NotIn k13 l3∧
 NotIn k6 l3∧
 NotIn k1 l3)∧
 ((!b3)=false→
 ∀k16,w10.heap.size≤k16→
 ∀w11,KpL [] w10 w11→
 Hb w11 k16 #[int i64 2] 2→
 CallW Tryz.prog 26 #[int i64 1,int i64 0,slice (some (Addr.mk k16 0 none)) 1 1] w11 fun e8 w12 =>
 ∃a9 k17 k18 a10 k19 k20,e8=returned (agg #[slice a9 k17 k18,slice a10 k19 k20])∧
 KpL [] w11 w12∧
 ∀k21,w12.heap.size≤k21→
 ∀w13,KpL [] w12 w13→
 Hb w13 k21 #[int i64 4] 2→
 CallW Tryz.prog 26 #[int i64 3,int i64 1,slice (some (Addr.mk k21 0 none)) 1 1] w13 fun e9 w14 =>
 ∃a11 k22 k23 a12 k24 k25,e9=returned (agg #[slice a11 k22 k23,slice a12 k24 k25])∧
 KpL [] w13 w14∧
 ∀k26,w14.heap.size≤k26→
 ∀w15,KpL [] w14 w15→
 Hb w15 k26 #[slice a9 k17 k18,slice a10 k19 k20,slice a11 k22 k23,slice a12 k24 k25] 81→
 CallW Tryz.prog 28 #[pointer a2,slice (some (Addr.mk k26 0 none)) 2 2] w15 fun e10 w16 =>
 ∃b4,e10=returned (Value.bool b4)∧
 KpL [] w15 w16∧
 ((!b4)=true→
 R (returned (Value.bool false)) w16)∧
 ((!b4)=false→
 ∀k27,w16.heap.size≤k27→
 ∀w17,KpL [] w16 w17→
 Hb w17 k27 #[int i64 1] 2→
 CallW Tryz.prog 26 #[int i64 0,int i64 1,slice (some (Addr.mk k27 0 none)) 1 1] w17 fun e11 w18 =>
 ∃a13 k28 k29 a14 k30 k31,e11=returned (agg #[slice a13 k28 k29,slice a14 k30 k31])∧
 KpL [] w17 w18∧
 ∀k32,w18.heap.size≤k32→
 ∀w19,KpL [] w18 w19→
 Hb w19 k32 #[slice a13 k28 k29,slice a14 k30 k31] 81→
 CallW Tryz.prog 25 (#[string (ByteArray.mk #[100]),int i64 1,slice (some (Addr.mk k32 0 none)) 1 1]) w19 fun e12 w20 =>
 ∃s5 n4 s6 a15 k33 k34,e12=returned (agg #[string s5,int i64 n4,string s6,slice a15 k33 k34])∧
 KpL [] w19 w20∧
 CallW Tryz.prog 13 (#[pointer a2,agg #[string s5,int i64 n4,string s6,slice a15 k33 k34]]) w20 fun e13 w21 =>
 ∃b5 n5,e13=returned (tuple #[Value.bool b5,int i64 n5])∧
 ∃l4,KpL l4 w20 w21∧
 (NotIn k32 l4∧
 NotIn k27 l4∧
 NotIn k26 l4∧
 NotIn k21 l4∧
 NotIn k16 l4∧
 NotIn k13 l4∧
 NotIn k6 l4∧
 NotIn k1 l4)∧
 CallW Tryz.prog 29 #[pointer a2] w21 fun e14 w22 =>
 ∃n6 n7,e14=returned (tuple #[int i64 n6,int i64 n7])∧
 KpL [] w21 w22∧
 CallW Tryz.prog 14 #[pointer a2] w22 fun e15 w23 =>
 ∃n8,e15=returned (int i64 n8)∧
 ∃l5,KpL l5 w22 w23∧
 (NotIn k32 l5∧
 NotIn k27 l5∧
 NotIn k26 l5∧
 NotIn k21 l5∧
 NotIn k16 l5∧
 NotIn k13 l5∧
 NotIn k6 l5∧
 NotIn k1 l5)∧
 CallW Tryz.prog 29 #[pointer a2] w23 fun e16 w24 =>
 ∃n9 n10,e16=returned (tuple #[int i64 n9,int i64 n10])∧
 KpL [] w23 w24∧
 CallW Tryz.prog 30 #[pointer a2] w24 fun e17 w25 =>
 ∃a16 k35 k36 n11,e17=returned (tuple #[slice a16 k35 k36,int i64 n11])∧
 KpL [] w24 w25∧
 (¬n5≠18→
 (¬n6≠1→
 (¬n7≠0→
 (¬n8≠0→
 (¬n9≠10→
 (¬n10≠0→
 (¬n11≠0→
 ∀k37,w25.heap.size≤k37→
 ∀w26,KpL [] w25 w26→
 Hb w26 k37 #[string (ByteArray.mk #[97]),string (ByteArray.mk #[98]),string (ByteArray.mk #[99])] 9→
 CallW Tryz.prog 31 #[slice a16 k35 k36,slice (some (Addr.mk k37 0 none)) 3 3] w26 fun e18 w27 =>
 ∃b6,e18=returned (Value.bool b6)∧
 KpL [] w26 w27∧
 ((!b6)=true→
 R (returned (Value.bool false)) w27)∧
 ((!b6)=false→
 ∀k38,w27.heap.size≤k38→
 ∀w28,KpL [] w27 w28→
 Hb w28 k38 #[int i64 7] 2→
 CallW Tryz.prog 26 #[int i64 0,int i64 0,slice (some (Addr.mk k38 0 none)) 1 1] w28 fun e19 w29 =>
 ∃a17 k39 k40 a18 k41 k42,e19=returned (agg #[slice a17 k39 k40,slice a18 k41 k42])∧
 KpL [] w28 w29∧
 ∀k43,w29.heap.size≤k43→
 ∀w30,KpL [] w29 w30→
 Hb w30 k43 #[slice a17 k39 k40,slice a18 k41 k42] 81→
 CallW Tryz.prog 25 (#[string (ByteArray.mk #[100]),int i64 5,slice (some (Addr.mk k43 0 none)) 1 1]) w30 fun e20 w31 =>
 ∃s7 n12 s8 a19 k44 k45,e20=returned (agg #[string s7,int i64 n12,string s8,slice a19 k44 k45])∧
 KpL [] w30 w31∧
 CallW Tryz.prog 27 (#[pointer a2,agg #[string s7,int i64 n12,string s8,slice a19 k44 k45]]) w31 fun e21 w32 =>
 ∃b7,e21=returned (Value.bool b7)∧
 ∃l6,KpL l6 w31 w32∧
 (NotIn k43 l6∧
 NotIn k38 l6∧
 NotIn k37 l6∧
 NotIn k32 l6∧
 NotIn k27 l6∧
 NotIn k26 l6∧
 NotIn k21 l6∧
 NotIn k16 l6∧
 NotIn k13 l6∧
 NotIn k6 l6∧
 NotIn k1 l6)∧
 ((!b7)=false→
 ∀k46,w32.heap.size≤k46→
 ∀w33,KpL [] w32 w33→
 Hb w33 k46 #[int i64 7] 2→
 CallW Tryz.prog 26 #[int i64 0,int i64 0,slice (some (Addr.mk k46 0 none)) 1 1] w33 fun e22 w34 =>
 ∃a20 k47 k48 a21 k49 k50,e22=returned (agg #[slice a20 k47 k48,slice a21 k49 k50])∧
 KpL [] w33 w34∧
 ∀k51,w34.heap.size≤k51→
 ∀w35,KpL [] w34 w35→
 Hb w35 k51 #[int i64 2] 2→
 CallW Tryz.prog 26 #[int i64 1,int i64 0,slice (some (Addr.mk k51 0 none)) 1 1] w35 fun e23 w36 =>
 ∃a22 k52 k53 a23 k54 k55,e23=returned (agg #[slice a22 k52 k53,slice a23 k54 k55])∧
 KpL [] w35 w36∧
 ∀k56,w36.heap.size≤k56→
 ∀w37,KpL [] w36 w37→
 Hb w37 k56 #[int i64 4] 2→
 CallW Tryz.prog 26 #[int i64 3,int i64 1,slice (some (Addr.mk k56 0 none)) 1 1] w37 fun e24 w38 =>
 ∃a24 k57 k58 a25 k59 k60,e24=returned (agg #[slice a24 k57 k58,slice a25 k59 k60])∧
 KpL [] w37 w38∧
 ∀k61,w38.heap.size≤k61→
 ∀w39,KpL [] w38 w39→
 Hb w39 k61 #[slice a20 k47 k48,slice a21 k49 k50,slice a22 k52 k53,slice a23 k54 k55,slice a24 k57 k58,slice a25 k59 k60] 81→
 CallW Tryz.prog 28 #[pointer a2,slice (some (Addr.mk k61 0 none)) 3 3] w39 fun e25 w40 =>
 ∃b8,e25=returned (Value.bool b8)∧
 KpL [] w39 w40∧
 ((!b8)=true→
 R (returned (Value.bool false)) w40)∧
 ((!b8)=false→
 ∀k62,w40.heap.size≤k62→
 ∀w41,KpL [] w40 w41→
 Hb w41 k62 #[int i64 1] 2→
 CallW Tryz.prog 26 #[int i64 0,int i64 0,slice (some (Addr.mk k62 0 none)) 1 1] w41 fun e26 w42 =>
 ∃a26 k63 k64 a27 k65 k66,e26=returned (agg #[slice a26 k63 k64,slice a27 k65 k66])∧
 KpL [] w41 w42∧
 ∀k67,w42.heap.size≤k67→
 ∀w43,KpL [] w42 w43→
 Hb w43 k67 #[slice a26 k63 k64,slice a27 k65 k66] 81→
 CallW Tryz.prog 25 (#[string (ByteArray.mk #[68]),int i64 1,slice (some (Addr.mk k67 0 none)) 1 1]) w43 fun e27 w44 =>
 ∃s9 n13 s10 a28 k68 k69,e27=returned (agg #[string s9,int i64 n13,string s10,slice a28 k68 k69])∧
 KpL [] w43 w44∧
 CallW Tryz.prog 13 (#[pointer a2,agg #[string s9,int i64 n13,string s10,slice a28 k68 k69]]) w44 fun e28 w45 =>
 ∃b9 n14,e28=returned (tuple #[Value.bool b9,int i64 n14])∧
 ∃l7,KpL l7 w44 w45∧
 (NotIn k67 l7∧
 NotIn k62 l7∧
 NotIn k61 l7∧
 NotIn k56 l7∧
 NotIn k51 l7∧
 NotIn k46 l7∧
 NotIn k43 l7∧
 NotIn k38 l7∧
 NotIn k37 l7∧
 NotIn k32 l7∧
 NotIn k27 l7∧
 NotIn k26 l7∧
 NotIn k21 l7∧
 NotIn k16 l7∧
 NotIn k13 l7∧
 NotIn k6 l7∧
 NotIn k1 l7)∧
 ∀k70,w45.heap.size≤k70→
 ∀w46,KpL [] w45 w46→
 Hb w46 k70 #[int i64 1] 2→
 CallW Tryz.prog 26 #[int i64 0,int i64 0,slice (some (Addr.mk k70 0 none)) 1 1] w46 fun e29 w47 =>
 ∃a29 k71 k72 a30 k73 k74,e29=returned (agg #[slice a29 k71 k72,slice a30 k73 k74])∧
 KpL [] w46 w47∧
 ∀k75,w47.heap.size≤k75→
 ∀w48,KpL [] w47 w48→
 Hb w48 k75 #[slice a29 k71 k72,slice a30 k73 k74] 81→
 CallW Tryz.prog 25 (#[string (ByteArray.mk #[101]),int i64 (-1),slice (some (Addr.mk k75 0 none)) 1 1]) w48 fun e30 w49 =>
 ∃s11 n15 s12 a31 k76 k77,e30=returned (agg #[string s11,int i64 n15,string s12,slice a31 k76 k77])∧
 KpL [] w48 w49∧
 CallW Tryz.prog 13 (#[pointer a2,agg #[string s11,int i64 n15,string s12,slice a31 k76 k77]]) w49 fun e31 w50 =>
 ∃b10 n16,e31=returned (tuple #[Value.bool b10,int i64 n16])∧
 ∃l8,KpL l8 w49 w50∧
 (NotIn k75 l8∧
 NotIn k70 l8∧
 NotIn k67 l8∧
 NotIn k62 l8∧
 NotIn k61 l8∧
 NotIn k56 l8∧
 NotIn k51 l8∧
 NotIn k46 l8∧
 NotIn k43 l8∧
 NotIn k38 l8∧
 NotIn k37 l8∧
 NotIn k32 l8∧
 NotIn k27 l8∧
 NotIn k26 l8∧
 NotIn k21 l8∧
 NotIn k16 l8∧
 NotIn k13 l8∧
 NotIn k6 l8∧
 NotIn k1 l8)∧
 CallW Tryz.prog 25 (#[string (ByteArray.mk #[101]),int i64 1,slice none 0 0]) w50 fun e32 w51 =>
 ∃s13 n17 s14 a32 k78 k79,e32=returned (agg #[string s13,int i64 n17,string s14,slice a32 k78 k79])∧
 KpL [] w50 w51∧
 CallW Tryz.prog 13 (#[pointer a2,agg #[string s13,int i64 n17,string s14,slice a32 k78 k79]]) w51 fun e33 w52 =>
 ∃b11 n18,e33=returned (tuple #[Value.bool b11,int i64 n18])∧
 ∃l9,KpL l9 w51 w52∧
 (NotIn k75 l9∧
 NotIn k70 l9∧
 NotIn k67 l9∧
 NotIn k62 l9∧
 NotIn k61 l9∧
 NotIn k56 l9∧
 NotIn k51 l9∧
 NotIn k46 l9∧
 NotIn k43 l9∧
 NotIn k38 l9∧
 NotIn k37 l9∧
 NotIn k32 l9∧
 NotIn k27 l9∧
 NotIn k26 l9∧
 NotIn k21 l9∧
 NotIn k16 l9∧
 NotIn k13 l9∧
 NotIn k6 l9∧
 NotIn k1 l9)∧
 ∀k80,w52.heap.size≤k80→
 ∀w53,KpL [] w52 w53→
 Hb w53 k80 #[int i64 1] 2→
 CallW Tryz.prog 26 #[int i64 4,int i64 0,slice (some (Addr.mk k80 0 none)) 1 1] w53 fun e34 w54 =>
 ∃a33 k81 k82 a34 k83 k84,e34=returned (agg #[slice a33 k81 k82,slice a34 k83 k84])∧
 KpL [] w53 w54∧
 ∀k85,w54.heap.size≤k85→
 ∀w55,KpL [] w54 w55→
 Hb w55 k85 #[slice a33 k81 k82,slice a34 k83 k84] 81→
 CallW Tryz.prog 25 (#[string (ByteArray.mk #[101]),int i64 1,slice (some (Addr.mk k85 0 none)) 1 1]) w55 fun e35 w56 =>
 ∃s15 n19 s16 a35 k86 k87,e35=returned (agg #[string s15,int i64 n19,string s16,slice a35 k86 k87])∧
 KpL [] w55 w56∧
 CallW Tryz.prog 13 (#[pointer a2,agg #[string s15,int i64 n19,string s16,slice a35 k86 k87]]) w56 fun e36 w57 =>
 ∃b12 n20,e36=returned (tuple #[Value.bool b12,int i64 n20])∧
 ∃l10,KpL l10 w56 w57∧
 (NotIn k85 l10∧
 NotIn k80 l10∧
 NotIn k75 l10∧
 NotIn k70 l10∧
 NotIn k67 l10∧
 NotIn k62 l10∧
 NotIn k61 l10∧
 NotIn k56 l10∧
 NotIn k51 l10∧
 NotIn k46 l10∧
 NotIn k43 l10∧
 NotIn k38 l10∧
 NotIn k37 l10∧
 NotIn k32 l10∧
 NotIn k27 l10∧
 NotIn k26 l10∧
 NotIn k21 l10∧
 NotIn k16 l10∧
 NotIn k13 l10∧
 NotIn k6 l10∧
 NotIn k1 l10)∧
 (¬n14≠11→
 (¬n16≠3→
 (¬n18≠9→
 (n20≠3→
 R (returned (Value.bool false)) w57)∧
 (¬n20≠3→
 CallW Tryz.prog 15 #[pointer a1] w57 fun e37 w58 =>
 ∃a36 n21,e37=returned (tuple #[pointer a36,int i64 n21])∧
 ∃l11,KpL l11 w57 w58∧
 (NotIn k85 l11∧
 NotIn k80 l11∧
 NotIn k75 l11∧
 NotIn k70 l11∧
 NotIn k67 l11∧
 NotIn k62 l11∧
 NotIn k61 l11∧
 NotIn k56 l11∧
 NotIn k51 l11∧
 NotIn k46 l11∧
 NotIn k43 l11∧
 NotIn k38 l11∧
 NotIn k37 l11∧
 NotIn k32 l11∧
 NotIn k27 l11∧
 NotIn k26 l11∧
 NotIn k21 l11∧
 NotIn k16 l11∧
 NotIn k13 l11∧
 NotIn k6 l11∧
 NotIn k1 l11)∧
 CallW Tryz.prog 16 #[pointer a2] w58 fun e38 w59 =>
 ∃a37 k88 k89 n22,e38=returned (tuple #[slice a37 k88 k89,int i64 n22])∧
 KpL [] w58 w59∧
 (¬n21≠0→
 (¬n22≠17→
 ∀k90,w59.heap.size≤k90→
 ∀w60,KpL [] w59 w60→
 Hb w60 k90 #[int i64 7] 2→
 CallW Tryz.prog 26 #[int i64 0,int i64 0,slice (some (Addr.mk k90 0 none)) 1 1] w60 fun e39 w61 =>
 ∃a38 k91 k92 a39 k93 k94,e39=returned (agg #[slice a38 k91 k92,slice a39 k93 k94])∧
 KpL [] w60 w61∧
 ∀k95,w61.heap.size≤k95→
 ∀w62,KpL [] w61 w62→
 Hb w62 k95 #[int i64 2] 2→
 CallW Tryz.prog 26 #[int i64 1,int i64 0,slice (some (Addr.mk k95 0 none)) 1 1] w62 fun e40 w63 =>
 ∃a40 k96 k97 a41 k98 k99,e40=returned (agg #[slice a40 k96 k97,slice a41 k98 k99])∧
 KpL [] w62 w63∧
 ∀k100,w63.heap.size≤k100→
 ∀w64,KpL [] w63 w64→
 Hb w64 k100 #[int i64 4] 2→
 CallW Tryz.prog 26 #[int i64 3,int i64 1,slice (some (Addr.mk k100 0 none)) 1 1] w64 fun e41 w65 =>
 ∃a42 k101 k102 a43 k103 k104,e41=returned (agg #[slice a42 k101 k102,slice a43 k103 k104])∧
 KpL [] w64 w65∧
 ∀k105,w65.heap.size≤k105→
 ∀w66,KpL [] w65 w66→
 Hb w66 k105 #[slice a38 k91 k92,slice a39 k93 k94,slice a40 k96 k97,slice a41 k98 k99,slice a42 k101 k102,slice a43 k103 k104] 81→
 CallW Tryz.prog 28 #[pointer a36,slice (some (Addr.mk k105 0 none)) 3 3] w66 fun e42 w67 =>
 ∃b13,e42=returned (Value.bool b13)∧
 KpL [] w66 w67∧
 ((!b13)=true→
 R (returned (Value.bool false)) w67)∧
 ((!b13)=false→
 CallW Tryz.prog 19 #[int i64 64] w67 fun e43 w68 =>
 ∃a44 n23,e43=returned (tuple #[pointer a44,int i64 n23])∧
 KpL [] w67 w68∧
 Ev Tryz.prog (Instr.alloc 91 true (tuple #[])) w68 fun y1 w69 =>
 ∃d1,y1=pointer (some d1)∧
 ∃l12,KpL l12 w68 w69∧
 (NotIn k105 l12∧
 NotIn k100 l12∧
 NotIn k95 l12∧
 NotIn k90 l12∧
 NotIn k85 l12∧
 NotIn k80 l12∧
 NotIn k75 l12∧
 NotIn k70 l12∧
 NotIn k67 l12∧
 NotIn k62 l12∧
 NotIn k61 l12∧
 NotIn k56 l12∧
 NotIn k51 l12∧
 NotIn k46 l12∧
 NotIn k43 l12∧
 NotIn k38 l12∧
 NotIn k37 l12∧
 NotIn k32 l12∧
 NotIn k27 l12∧
 NotIn k26 l12∧
 NotIn k21 l12∧
 NotIn k16 l12∧
 NotIn k13 l12∧
 NotIn k6 l12∧
 NotIn k1 l12)∧
 ∃(P1:List Value→World→Prop) (P2:List Value→World→Nat),P1 [int i64 0] w69∧
 ∀n24 w70,P1 [int i64 n24] w70→
 (n24<64→
 0≤n24∧
 n24<(↑(64:Nat):Int)∧
 (∃(l13:List Value),LdA w70 (d1.add (n24.toNat*1)) l13∧
 l13.length=1)∧
 NotFrozen w70 (d1.add (n24.toNat*1)) 1∧
 (NotIn k105 [(d1.add (n24.toNat*1)).block]∧
 NotIn k100 [(d1.add (n24.toNat*1)).block]∧
 NotIn k95 [(d1.add (n24.toNat*1)).block]∧
 NotIn k90 [(d1.add (n24.toNat*1)).block]∧
 NotIn k85 [(d1.add (n24.toNat*1)).block]∧
 NotIn k80 [(d1.add (n24.toNat*1)).block]∧
 NotIn k75 [(d1.add (n24.toNat*1)).block]∧
 NotIn k70 [(d1.add (n24.toNat*1)).block]∧
 NotIn k67 [(d1.add (n24.toNat*1)).block]∧
 NotIn k62 [(d1.add (n24.toNat*1)).block]∧
 NotIn k61 [(d1.add (n24.toNat*1)).block]∧
 NotIn k56 [(d1.add (n24.toNat*1)).block]∧
 NotIn k51 [(d1.add (n24.toNat*1)).block]∧
 NotIn k46 [(d1.add (n24.toNat*1)).block]∧
 NotIn k43 [(d1.add (n24.toNat*1)).block]∧
 NotIn k38 [(d1.add (n24.toNat*1)).block]∧
 NotIn k37 [(d1.add (n24.toNat*1)).block]∧
 NotIn k32 [(d1.add (n24.toNat*1)).block]∧
 NotIn k27 [(d1.add (n24.toNat*1)).block]∧
 NotIn k26 [(d1.add (n24.toNat*1)).block]∧
 NotIn k21 [(d1.add (n24.toNat*1)).block]∧
 NotIn k16 [(d1.add (n24.toNat*1)).block]∧
 NotIn k13 [(d1.add (n24.toNat*1)).block]∧
 NotIn k6 [(d1.add (n24.toNat*1)).block]∧
 NotIn k1 [(d1.add (n24.toNat*1)).block])∧
 ∀w71,w71=stA w70 (d1.add (n24.toNat*1)) [int u8 7] 0→
 InI i64 (n24+1)∧
 P1 [int i64 (n24+1)] w71∧
 P2 [int i64 (n24+1)] w71<P2 [int i64 n24] w70)∧
 (¬n24<64→
 (¬n23≠0→
 ∃a45 k106 k107,Pv Tryz.prog (Instr.sliceAt 91 (pointer (some d1)) none none none) (slice a45 k106 k107)∧
 CallW Tryz.prog 32 #[pointer a44,int i64 3,slice a45 k106 k107] w70 fun e44 w72 =>
 ∃n25,e44=returned (int i64 n25)∧
 ∃l14,KpL l14 w70 w72∧
 (NotIn k105 l14∧
 NotIn k100 l14∧
 NotIn k95 l14∧
 NotIn k90 l14∧
 NotIn k85 l14∧
 NotIn k80 l14∧
 NotIn k75 l14∧
 NotIn k70 l14∧
 NotIn k67 l14∧
 NotIn k62 l14∧
 NotIn k61 l14∧
 NotIn k56 l14∧
 NotIn k51 l14∧
 NotIn k46 l14∧
 NotIn k43 l14∧
 NotIn k38 l14∧
 NotIn k37 l14∧
 NotIn k32 l14∧
 NotIn k27 l14∧
 NotIn k26 l14∧
 NotIn k21 l14∧
 NotIn k16 l14∧
 NotIn k13 l14∧
 NotIn k6 l14∧
 NotIn k1 l14)∧
 (¬n25≠0→
 ∀k108,w72.heap.size≤k108→
 ∀w73,KpL [] w72 w73→
 Hb w73 k108 #[int u8 200] 5→
 CallW Tryz.prog 33 #[pointer a44,slice (some (Addr.mk k108 0 none)) 1 1] w73 fun e45 w74 =>
 ∃n26,e45=returned (int i64 n26)∧
 ∃l15,KpL l15 w73 w74∧
 (NotIn k105 l15∧
 NotIn k100 l15∧
 NotIn k95 l15∧
 NotIn k90 l15∧
 NotIn k85 l15∧
 NotIn k80 l15∧
 NotIn k75 l15∧
 NotIn k70 l15∧
 NotIn k67 l15∧
 NotIn k62 l15∧
 NotIn k61 l15∧
 NotIn k56 l15∧
 NotIn k51 l15∧
 NotIn k46 l15∧
 NotIn k43 l15∧
 NotIn k38 l15∧
 NotIn k37 l15∧
 NotIn k32 l15∧
 NotIn k27 l15∧
 NotIn k26 l15∧
 NotIn k21 l15∧
 NotIn k16 l15∧
 NotIn k13 l15∧
 NotIn k6 l15∧
 NotIn k1 l15)∧
 (¬n26≠0→
 CallW Tryz.prog 34 #[pointer a44] w74 fun e46 w75 =>
 ∃n27,e46=returned (int i64 n27)∧
 ∃l16,KpL l16 w74 w75∧
 (NotIn k105 l16∧
 NotIn k100 l16∧
 NotIn k95 l16∧
 NotIn k90 l16∧
 NotIn k85 l16∧
 NotIn k80 l16∧
 NotIn k75 l16∧
 NotIn k70 l16∧
 NotIn k67 l16∧
 NotIn k62 l16∧
 NotIn k61 l16∧
 NotIn k56 l16∧
 NotIn k51 l16∧
 NotIn k46 l16∧
 NotIn k43 l16∧
 NotIn k38 l16∧
 NotIn k37 l16∧
 NotIn k32 l16∧
 NotIn k27 l16∧
 NotIn k26 l16∧
 NotIn k21 l16∧
 NotIn k16 l16∧
 NotIn k13 l16∧
 NotIn k6 l16∧
 NotIn k1 l16)∧
 (n27≠0→
 R (returned (Value.bool false)) w75)∧
 (¬n27≠0→
 CallW Tryz.prog 35 #[pointer a44,int i64 3] w75 fun e47 w76 =>
 ∃a46 k109 k110 n28,e47=returned (tuple #[slice a46 k109 k110,int i64 n28])∧
 KpL [] w75 w76∧
 (¬n28≠0→
 (¬(↑k109:Int)≠(64:Int)→
 ∃d2,a46=some d2∧
 (0:Int)≤(58:Int)∧
 (58:Int)<(↑k109:Int)∧
 ∃n29,LdA w76 (d2.add (Int.toNat 58*1)) [int u8 n29]∧
 (¬n29≠0→
 ∃d3,a46=some d3∧
 (0:Int)≤(59:Int)∧
 (59:Int)<(↑k109:Int)∧
 ∃n30,LdA w76 (d3.add (Int.toNat 59*1)) [int u8 n30]∧
 (¬n30≠7→
 ∃d4,a46=some d4∧
 (0:Int)≤(63:Int)∧
 (63:Int)<(↑k109:Int)∧
 ∃n31,LdA w76 (d4.add (Int.toNat 63*1)) [int u8 n31]∧
 (n31≠7→
 R (returned (Value.bool false)) w76)∧
 (¬n31≠7→
 CallW Tryz.prog 26 #[int i64 0,int i64 0,slice none 0 0] w76 fun e48 w77 =>
 ∃a47 k111 k112 a48 k113 k114,e48=returned (agg #[slice a47 k111 k112,slice a48 k113 k114])∧
 KpL [] w76 w77∧
 ∀k115,w77.heap.size≤k115→
 ∀w78,KpL [] w77 w78→
 Hb w78 k115 #[slice a47 k111 k112,slice a48 k113 k114] 81→
 CallW Tryz.prog 25 (#[string (ByteArray.mk #[97]),int i64 1,slice (some (Addr.mk k115 0 none)) 1 1]) w78 fun e49 w79 =>
 ∃s17 n32 s18 a49 k116 k117,e49=returned (agg #[string s17,int i64 n32,string s18,slice a49 k116 k117])∧
 KpL [] w78 w79∧
 CallW Tryz.prog 13 (#[pointer none,agg #[string s17,int i64 n32,string s18,slice a49 k116 k117]]) w79 fun e50 w80 =>
 ∃b14 n33,e50=returned (tuple #[Value.bool b14,int i64 n33])∧
 ∃l17,KpL l17 w79 w80∧
 (NotIn k115 l17∧
 NotIn k105 l17∧
 NotIn k100 l17∧
 NotIn k95 l17∧
 NotIn k90 l17∧
 NotIn k85 l17∧
 NotIn k80 l17∧
 NotIn k75 l17∧
 NotIn k70 l17∧
 NotIn k67 l17∧
 NotIn k62 l17∧
 NotIn k61 l17∧
 NotIn k56 l17∧
 NotIn k51 l17∧
 NotIn k46 l17∧
 NotIn k43 l17∧
 NotIn k38 l17∧
 NotIn k37 l17∧
 NotIn k32 l17∧
 NotIn k27 l17∧
 NotIn k26 l17∧
 NotIn k21 l17∧
 NotIn k16 l17∧
 NotIn k13 l17∧
 NotIn k6 l17∧
 NotIn k1 l17)∧
 CallW Tryz.prog 36 #[] w80 fun e51 w81 =>
 ∃a50 k118 k119,e51=returned (slice a50 k118 k119)∧
 KpL [] w80 w81∧
 CallW Tryz.prog 20 #[pointer none,slice a50 k118 k119] w81 fun e52 w82 =>
 ∃a51 n34,e52=returned (tuple #[pointer a51,int i64 n34])∧
 ∃l18,KpL l18 w81 w82∧
 (NotIn k115 l18∧
 NotIn k105 l18∧
 NotIn k100 l18∧
 NotIn k95 l18∧
 NotIn k90 l18∧
 NotIn k85 l18∧
 NotIn k80 l18∧
 NotIn k75 l18∧
 NotIn k70 l18∧
 NotIn k67 l18∧
 NotIn k62 l18∧
 NotIn k61 l18∧
 NotIn k56 l18∧
 NotIn k51 l18∧
 NotIn k46 l18∧
 NotIn k43 l18∧
 NotIn k38 l18∧
 NotIn k37 l18∧
 NotIn k32 l18∧
 NotIn k27 l18∧
 NotIn k26 l18∧
 NotIn k21 l18∧
 NotIn k16 l18∧
 NotIn k13 l18∧
 NotIn k6 l18∧
 NotIn k1 l18)∧
 ∀k120,w82.heap.size≤k120→
 ∀w83,KpL [] w82 w83→
 Hb w83 k120 #[slice none 0 0,slice none 0 0,slice none 0 0,int i64 0,slice none 0 0,Value.bool false,int i64 0,int i64 0,int i64 0] 99→
 CallW Tryz.prog 15 #[pointer (some (Addr.mk k120 0 none))] w83 fun e53 w84 =>
 ∃a52 n35,e53=returned (tuple #[pointer a52,int i64 n35])∧
 ∃l19,KpL l19 w83 w84∧
 (NotIn k115 l19∧
 NotIn k105 l19∧
 NotIn k100 l19∧
 NotIn k95 l19∧
 NotIn k90 l19∧
 NotIn k85 l19∧
 NotIn k80 l19∧
 NotIn k75 l19∧
 NotIn k70 l19∧
 NotIn k67 l19∧
 NotIn k62 l19∧
 NotIn k61 l19∧
 NotIn k56 l19∧
 NotIn k51 l19∧
 NotIn k46 l19∧
 NotIn k43 l19∧
 NotIn k38 l19∧
 NotIn k37 l19∧
 NotIn k32 l19∧
 NotIn k27 l19∧
 NotIn k26 l19∧
 NotIn k21 l19∧
 NotIn k16 l19∧
 NotIn k13 l19∧
 NotIn k6 l19∧
 NotIn k1 l19)∧
 (n33=1→
 (n34=1→
 (n35=1→
 CallW Tryz.prog 37 #[pointer none] w84 fun e54 w85 =>
 ∃n36,e54=returned (int i64 n36)∧
 ∃l20,KpL l20 w84 w85∧
 (NotIn k115 l20∧
 NotIn k105 l20∧
 NotIn k100 l20∧
 NotIn k95 l20∧
 NotIn k90 l20∧
 NotIn k85 l20∧
 NotIn k80 l20∧
 NotIn k75 l20∧
 NotIn k70 l20∧
 NotIn k67 l20∧
 NotIn k62 l20∧
 NotIn k61 l20∧
 NotIn k56 l20∧
 NotIn k51 l20∧
 NotIn k46 l20∧
 NotIn k43 l20∧
 NotIn k38 l20∧
 NotIn k37 l20∧
 NotIn k32 l20∧
 NotIn k27 l20∧
 NotIn k26 l20∧
 NotIn k21 l20∧
 NotIn k16 l20∧
 NotIn k13 l20∧
 NotIn k6 l20∧
 NotIn k1 l20)∧
 (n36=1→
 CallW Tryz.prog 38 #[pointer none] w85 fun e55 w86 =>
 ∃b15,e55=returned (Value.bool b15)∧
 KpL [] w85 w86∧
 ((!b15)=true→
 CallW Tryz.prog 39 #[pointer none] w86 fun e56 w87 =>
 ∃a53,e56=returned (pointer a53)∧
 KpL [] w86 w87∧
 (a53=none→
 CallW Tryz.prog 9 #[] w87 fun e57 w88 =>
 ∃b16,e57=returned (Value.bool b16)∧
 KpL [] w87 w88∧
 R (returned (Value.bool b16)) w88)∧
 (¬a53=none→
 R (returned (Value.bool false)) w87))∧
 ((!b15)=false→
 R (returned (Value.bool false)) w86))∧
 (¬n36=1→
 R (returned (Value.bool false)) w85))∧
 (¬n35=1→
 R (returned (Value.bool false)) w84))∧
 (¬n34=1→
 R (returned (Value.bool false)) w84))∧
 (¬n33=1→
 R (returned (Value.bool false)) w84)))∧
 (n30≠7→
 R (returned (Value.bool false)) w76))∧
 (n29≠0→
 R (returned (Value.bool false)) w76))∧
 ((↑k109:Int)≠(64:Int)→
 R (returned (Value.bool false)) w76))∧
 (n28≠0→
 R (returned (Value.bool false)) w76)))∧
 (n26≠0→
 R (returned (Value.bool false)) w74))∧
 (n25≠0→
 R (returned (Value.bool false)) w72))∧
 (n23≠0→
 R (returned (Value.bool false)) w70))))∧
 (n22≠17→
 R (returned (Value.bool false)) w59))∧
 (n21≠0→
 R (returned (Value.bool false)) w59)))∧
 (n18≠9→
 R (returned (Value.bool false)) w57))∧
 (n16≠3→
 R (returned (Value.bool false)) w57))∧
 (n14≠11→
 R (returned (Value.bool false)) w57)))∧
 ((!b7)=true→
 R (returned (Value.bool false)) w32)))∧
 (n11≠0→
 R (returned (Value.bool false)) w25))∧
 (n10≠0→
 R (returned (Value.bool false)) w25))∧
 (n9≠10→
 R (returned (Value.bool false)) w25))∧
 (n8≠0→
 R (returned (Value.bool false)) w25))∧
 (n7≠0→
 R (returned (Value.bool false)) w25))∧
 (n6≠1→
 R (returned (Value.bool false)) w25))∧
 (n5≠18→
 R (returned (Value.bool false)) w25)))∧
 ((!b3)=true→
 R (returned (Value.bool false)) w10))∧
 (n2≠0→
 R (returned (Value.bool false)) w6))∧
 (b2=true→
 R (returned (Value.bool false)) w6))):Calls Tryz.prog 5 #[] w R :=
 fnc0 (an:={ loops:=[⟨29,[16],[215,216,217,218,219,220],[15]⟩],muts:=[24,27,13,14,15,20,32,33,34,37] }) (args:=[]) Tryz_ok Tryz.func5 (by kernel_rfl) rfl rfl h
end Go.Vc
namespace Go.Vc
open Go Go.Proofs
theorem KS.grow2{w w1 w3 w5:World}{M G:List Nat}{s d:Nat}{c:Int}{st:Sto}(h:KS w w1 M s d c st G){k1 k6:Nat}(g1:w1.heap.size≤k1)(g2:k1<w3.heap.size)(g3:w3.heap.size≤k6)(g4:k6<w5.heap.size)(hk:KpL [] w1 w3)(hk2:KpL [] w3 w5):KS w w5 (k6::k1::M) s d c st G :=
 h.grow (hk.trans hk2) (N:=[k6,k1]) fun b hb=>by
  have:=hk.size
  have:=hk2.size
  simp only[List.mem_cons,List.not_mem_nil,or_false]at hb
  rcases hb with rfl|rfl<;>omega
theorem KS.grow1{w w1 w5:World}{M G:List Nat}{s d:Nat}{c:Int}{st:Sto}(h:KS w w1 M s d c st G){k6:Nat}(g3:w1.heap.size≤k6)(g4:k6<w5.heap.size)(hk:KpL [] w1 w5):KS w w5 (k6::M) s d c st G :=
 h.grow hk (N:=[k6]) fun b hb=>by
  simp only[List.mem_cons,List.not_mem_nil,or_false]at hb
  subst hb
  exact⟨g3,g4⟩
theorem strDK{M:List Nat}{w:World}{v:ByteArray}{cs:List Value}(h:R tS M w v cs):cs=[.string v]:=h.1
theorem sameStrK_ok{M M':List Nat}{w:World}{xs ys:List ByteArray}{a b:Option Addr}{n c m q:Nat}(hx:R (tSl tS) M w xs [.slice a n c])(hy:R (tSl tS) M' w ys [.slice b m q]):Calls Tryz.prog 31 #[.slice a n c,.slice b m q] w (PureR (.bool (decide (xs=ys))) w):=by
 obtain⟨rfl,hn1,hn2⟩:=hx.sl_len
 obtain⟨rfl,hm1,hm2⟩:=hy.sl_len
 have hmx:maxSl=140737488355328:=rfl
 refine sameStrings_vc ⟨fun hne=>?_,fun he=>⟨fun vs w'=>∃i:Nat,vs=[.int .i64 (i:Int)]∧KpL [] w w'∧i≤xs.length∧xs.take i=ys.take i,fun vs _=>match vs with|[.int _ i]=>xs.length - i.toNat|_=>0,⟨0,rfl,KpL.refl _ _,by omega,by simp⟩,?_⟩⟩
 ·have:xs≠ys:=by rintro rfl;exact hne rfl
  rw[decide_eq_false this]
  exact⟨rfl,KpL.refl _ _⟩
 have hl:xs.length=ys.length:=by omega
 rintro n1 w1 ⟨i,hv,hk,hi,ht⟩
 simp only[List.cons.injEq,Value.int.injEq,true_and,and_true]at hv
 subst hv
 constructor
 ·intro hlt
  have h1:i<xs.length:=by omega
  have h2:i<ys.length:=by omega
  obtain⟨ad,cs,rfl,hv1,hld1,_,_⟩:=(hx.kp0 hk).sl_get h1
  obtain⟨ad2,cs2,rfl,hv2,hld2,_,_⟩:=(hy.kp0 hk).sl_get h2
  have e1:=strDK hv1
  have e2:=strDK hv2
  subst e1 e2
  refine⟨ad,rfl,by omega,hlt,_,hld1,ad2,rfl,by omega,by omega,_,hld2,fun hne w2 hw2=>?_,fun heq=>⟨ini_i64.2 (by omega),fun w3 hw3=>⟨⟨i+1,rfl,hk.trans hw3,by omega,take_eq h1 h2 ht (Classical.not_not.1 heq)⟩,by dsimp only;omega⟩⟩⟩
  rw[decide_eq_false (get_ne h1 h2 hne)]
  exact⟨rfl,hk.trans hw2⟩
 ·intro hge
  have:xs=ys:=by
   rw[←List.take_length (l:=xs),←List.take_length (l:=ys),←hl,show xs.length=i from by omega]
   exact ht
  rw[decide_eq_true this]
  exact⟨rfl,hk⟩
theorem setL_mid:∀(xs:List Value) (y:Value) (zs:List Value) (v:Value),setL (xs++y::zs) xs.length [v]=xs++v::zs
 |[],y,zs,v=>by
  show v::setL zs 0 []=v::zs
  cases zs<;>rfl
 |x::xs,y,zs,v=>by
  show x::setL (xs++y::zs) xs.length [v]=x::(xs++v::zs)
  rw[setL_mid xs y zs v]
theorem setL_midK(n:Nat){y x v:Value}{zs:List Value}:setL (List.replicate n x++y::zs) (n+0) [v]=List.replicate n x++v::zs:=by
 have:=setL_mid (List.replicate n x) y zs v
 rw[List.length_replicate]at this
 exact this
set_option maxHeartbeats 8000000 in
theorem gKnown_ok(w:World):Calls Tryz.prog 5 #[] w (PureR (.bool true) w):=by
 refine gKnown_vc (u:=0) ⟨(lmade_ok (M:=[]) (by simp)).mono ?_⟩
 rintro e w1 ⟨hk1,d,s,G,i,rfl,hS,hG⟩
 have K:KS w w1 [] s d 1 (exS2 i) G:=⟨hk1,hS,hG⟩
 refine⟨_,_,_,rfl,[],hk1,fun hc=>(by cases hc),fun _=>?_⟩
 clear hk1 hS hG
 have le:∀{w' w'':World} {L:List Nat},(∀b∈L,b<w'.heap.size)→KpL [] w' w''→∀b∈L,b<w''.heap.size:=fun h hk b hb=>Nat.lt_of_lt_of_le (h b hb) hk.size
 refine at1_ok (M:=G) K.lt (by decide) fun k1 w3 a3 k2 k3 a4 k4 k5 g1 g2 hk hc=>bt1_ok (M:=G) (le K.lt hk) hc fun k6 w5 g3 g4 hk2 hb=>?_
 refine(K.grow2 g1 g2 g3 g4 hk hk2).putE (ex_a i) hb (fun l hl=>by and_intros<;>exact hl _ (by simp)) ?_
 clear K hb hc
 intro w6 G K
 refine⟨fun _=>⟨fun _=>?_,fun hc=>absurd rfl hc⟩,fun hc=>(by cases hc)⟩
 refine at0_ok (M:=G) K.lt (by decide) fun w7 a6 k9 k10 a7 k11 k12 hk hc=>bt1_ok (M:=G) (le K.lt hk) hc fun k13 w9 g3 g4 hk2 hb=>?_
 refine((K.kp hk).grow1 g3 g4 hk2).lputE (ex_c i) hb (fun l hl=>by and_intros<;>exact hl _ (by simp)) ?_
 clear K hb hc
 intro w10 G K
 refine⟨fun _=>?_,fun hc=>(by cases hc)⟩
 refine at1_ok (M:=[]) (by simp) (by decide) fun k16 w12 a9 k17 k18 a10 k19 k20 g1 g2 hk hc1=>at1_ok (M:=[]) (by simp) (by decide) fun k21 w14 a11 k22 k23 a12 k24 k25 g3 g4 hk' hc2=>?_
 refine(K.grow2 g1 g2 g3 g4 hk hk').has (cs:=[exC 1 0 2,exC 3 1 4]) (fun k w4 hk4 hb=>pair_R (t:=tCell) (c1:=[_,_]) (c2:=[_,_]) hb (by simp) (hc1.kp0 (hk'.trans hk4)) (hc2.kp0 hk4)) rfl (by rw[ex_c3]) sort2 (by decide) ?_
 clear K hc1 hc2
 intro k26 w16 K
 refine⟨fun hc=>(by cases hc),fun _=>?_⟩
 refine at1_ok (M:=G) K.lt (by decide) fun k1 w3 a3 k2 k3 a4 k4 k5 g1 g2 hk hc=>bt1_ok (M:=G) (le K.lt hk) hc fun k6 w5 g3 g4 hk2 hb=>?_
 refine(K.grow2 g1 g2 g3 g4 hk hk2).putE (ex_d i) hb (fun l hl=>by and_intros<;>exact hl _ (by simp)) ?_
 clear K hb hc
 intro w21 G K
 refine⟨K.h.room.mono ?_⟩
 rintro e w22 ⟨rfl,hw22⟩
 replace K:=K.kp hw22
 refine⟨_,_,rfl,hw22,⟨(K.h.cmp (by omega)).mono ?_⟩⟩
 rintro e w23 ⟨rfl,G4,h',hO⟩
 have K4:KS w w23 _ s d (1+1) (exS4 i) G4:=K.own hO h'
 refine⟨_,rfl,G,hO.kp,(by and_intros<;>exact K.nin _ (by simp)),⟨K4.h.room.mono ?_⟩⟩
 clear K h' hO
 rintro e w24 ⟨rfl,hw24⟩
 have K:=K4.kp hw24
 clear K4
 refine⟨_,_,rfl,hw24,⟨(K.h.tokens (N:=[]) (by simp)).mono ?_⟩⟩
 rintro e w25 ⟨a16,k35,k36,rfl,hw25,hT⟩
 replace K:=K.kp hw25
 refine⟨_,_,_,_,rfl,hw25,?_⟩
 have r1:(((64 - 2) / 2:Nat):Int) - (exS3 i).use=1:=by rw[ex_u3];rfl
 have r2:(((64 - 2) / 2:Nat):Int) - (exS4 i).use=10:=by rw[ex_u4];rfl
 refine⟨fun _=>⟨fun _=>⟨fun _=>⟨fun _=>⟨fun _=>⟨fun _=>⟨fun _=>?_,fun hc=>absurd rfl hc⟩,fun hc=>absurd rfl hc⟩,fun hc=>absurd r2 hc⟩,fun hc=>absurd rfl hc⟩,fun hc=>absurd rfl hc⟩,fun hc=>absurd r1 hc⟩,fun hc=>absurd rfl hc⟩
 rw[ex_t4]at hT
 intro k37 g1 w26 hw26 hkn26
 have l37:=block_lt hkn26
 refine⟨(sameStrK_ok (hT.kp0 hw26) (three_R (t:=tS) (c1:=[_]) (c2:=[_]) (c3:=[_]) (x:=⟨#[97]⟩) (y:=⟨#[98]⟩) (z:=⟨#[99]⟩) (M:=[]) hkn26 (by simp) ⟨rfl,by decide⟩ ⟨rfl,by decide⟩ ⟨rfl,by decide⟩)).mono ?_⟩
 rintro e w27 ⟨rfl,hw27⟩
 refine⟨_,rfl,hw27,fun hc=>(by simp at hc),fun _=>?_⟩
 replace K:=(K.grow1 g1 l37 hw26).kp hw27
 refine at1_ok (M:=G4) K.lt (by decide) fun k1 w3 a3 k2 k3 a4 k4 k5 g1 g2 hk hc=>bt1_ok (M:=G4) (le K.lt hk) hc fun k6 w5 g3 g4 hk2 hb=>?_
 refine(K.grow2 g1 g2 g3 g4 hk hk2).lputE (ex_d2 i) hb (fun l hl=>by and_intros<;>exact hl _ (by simp)) ?_
 clear K hb hc hT
 intro w32 G K
 refine⟨fun _=>?_,fun hc=>(by cases hc)⟩
 refine at1_ok (M:=[]) (by simp) (by decide) fun k16 w12 a9 k17 k18 a10 k19 k20 g1 g2 hk hc1=>at1_ok (M:=[]) (by simp) (by decide) fun k21 w14 a11 k22 k23 a12 k24 k25 g3 g4 hk' hc2=>?_
 replace K:=K.grow2 g1 g2 g3 g4 hk hk'
 refine at1_ok (M:=[]) (by simp) (by decide) fun k16 w13 a9 k17 k18 a10 k19 k20 g1 g2 hk'' hc3=>?_
 refine(K.grow1 g1 g2 hk'').has (cs:=[exC 0 0 7,exC 1 0 2,exC 3 1 4]) (fun k w4 hk4 hb=>three_R (t:=tCell) (c1:=[_,_]) (c2:=[_,_]) (c3:=[_,_]) hb (by simp) (hc1.kp0 ((hk'.trans hk'').trans hk4)) (hc2.kp0 (hk''.trans hk4)) (hc3.kp0 hk4)) rfl (by rw[ex_c5]) sort3 (by decide) ?_
 clear K hc1 hc2 hc3
 intro k61 w40 K
 refine⟨fun hc=>(by cases hc),fun _=>?_⟩
 refine at1_ok (M:=G) K.lt (by decide) fun k1 w3 a3 k2 k3 a4 k4 k5 g1 g2 hk hc=>bt1_ok (M:=G) (le K.lt hk) hc fun k6 w5 g3 g4 hk2 hb=>?_
 refine(K.grow2 g1 g2 g3 g4 hk hk2).putE (ex_D i) hb (fun l hl=>by and_intros<;>exact hl _ (by simp)) ?_
 clear K hb hc
 intro w45 G K
 refine at1_ok (M:=G) K.lt (by decide) fun k1 w3 a3 k2 k3 a4 k4 k5 g1 g2 hk hc=>bt1_ok (M:=G) (le K.lt hk) hc fun k6 w5 g3 g4 hk2 hb=>?_
 refine(K.grow2 g1 g2 g3 g4 hk hk2).putE (ex_e1 i) hb (fun l hl=>by and_intros<;>exact hl _ (by simp)) ?_
 clear K hb hc
 intro w50 G K
 refine⟨(lbatch_ok w50 _ _ _ _ _).mono ?_⟩
 rintro e w51 ⟨rfl,hk51⟩
 refine⟨_,_,_,_,_,_,rfl,hk51,?_⟩
 refine(K.kp hk51).putE (ex_e2 i) (R.sl_nil _ _ _ _ _) (fun l hl=>by and_intros<;>exact hl _ (by simp)) ?_
 clear K
 intro w52 G K
 refine at1_ok (M:=G) K.lt (by decide) fun k1 w3 a3 k2 k3 a4 k4 k5 g1 g2 hk hc=>bt1_ok (M:=G) (le K.lt hk) hc fun k6 w5 g3 g4 hk2 hb=>?_
 refine(K.grow2 g1 g2 g3 g4 hk hk2).putE (ex_e3 i) hb (fun l hl=>by and_intros<;>exact hl _ (by simp)) ?_
 clear K hb hc
 intro w57 G K
 refine⟨fun _=>⟨fun _=>⟨fun _=>⟨fun hc=>absurd rfl hc,fun _=>?_⟩,fun hc=>absurd rfl hc⟩,fun hc=>absurd rfl hc⟩,fun hc=>absurd rfl hc⟩
 refine⟨(K.h.opn2 (by omega)).mono ?_⟩
 rintro e w58 ⟨t,st',G5,rfl,hL,h',hO,hold⟩
 have K5:=K.own hO h'
 refine⟨_,_,rfl,G,hO.kp,(by and_intros<;>exact K.nin _ (by simp)),⟨(hold w58 (KpL.refl _ _)).mono ?_⟩⟩
 clear K hO h' hold
 rintro e w59 ⟨rfl,hw59⟩
 have K:=K5.kp hw59
 clear K5
 refine⟨_,_,_,_,rfl,hw59,fun _=>⟨fun _=>?_,fun hc=>absurd rfl hc⟩,fun hc=>absurd rfl hc⟩
 refine at1_ok (M:=[]) (by simp) (by decide) fun k16 w12 a9 k17 k18 a10 k19 k20 g1 g2 hk hc1=>at1_ok (M:=[]) (by simp) (by decide) fun k21 w14 a11 k22 k23 a12 k24 k25 g3 g4 hk' hc2=>?_
 replace K:=K.grow2 g1 g2 g3 g4 hk hk'
 refine at1_ok (M:=[]) (by simp) (by decide) fun k16 w13 a9 k17 k18 a10 k19 k20 g1 g2 hk'' hc3=>?_
 have hp5:(cellsI st'.arrays st'.places 0).Perm [exC 0 0 7,exC 1 0 2,exC 3 1 4]:=by
  have:=hL.pls.filterMap (cellP st'.arrays 0)
  rw[←ex_c5 i]
  unfold cellsI
  rw[←hL.arr]
  exact this
 refine(K.grow1 g1 g2 hk'').has (cs:=[exC 0 0 7,exC 1 0 2,exC 3 1 4]) (fun k w4 hk4 hb=>three_R (t:=tCell) (c1:=[_,_]) (c2:=[_,_]) (c3:=[_,_]) hb (by simp) (hc1.kp0 ((hk'.trans hk'').trans hk4)) (hc2.kp0 (hk''.trans hk4)) (hc3.kp0 hk4)) (by rw[hL.arr];rfl) hp5 sort3 (by decide) ?_
 clear K hc1 hc2 hc3
 intro k105 w67 K
 refine⟨fun hc=>(by cases hc),fun _=>?_⟩
 obtain⟨kw,hSL,_⟩:=K
 have hM:=hSL.mlt
 have nfr:∀{l:List Nat} {k:Nat},k<w67.heap.size→(∀b∈l,w67.heap.size≤b)→NotIn k l:=fun hk hl=>⟨fun hm=>by have:=hl _ hm;omega⟩
 refine⟨(newDisk_ok (M:=[]) (by simp) (n:=64) (by omega) (by omega)).mono ?_⟩
 rintro e w68 ⟨c,Fc,rfl,hw68,hD,hF⟩
 have z68:=hw68.size
 refine⟨_,_,rfl,hw68,ev_alloc (z:=List.replicate 64 (.int .u8 0)) ⟨_,fun w=>zero_of (z:=.agg (List.replicate 64 (Value.int .u8 0)).toArray) (by kernel_rfl) w,rfl⟩ fun w69 hb69 hw69=>?_⟩
 refine⟨_,rfl,[],hw69,(by and_intros<;>exact⟨by simp⟩),fun vs w'=>∃n:Nat,vs=[.int .i64 (n:Int)]∧n≤64∧KpL [] w68 w'∧w'.heap[w68.heap.size]?=some (.cells (List.replicate n (Value.int .u8 7)++List.replicate (64 - n) (Value.int .u8 0)).toArray 91 (0,0)),fun vs _=>match vs with|[.int _ n]=>64 - n.toNat|_=>0,⟨0,rfl,by omega,hw69,hb69⟩,?_⟩
 rintro n24 w70 ⟨n,hv,hn,hw70,hb70⟩
 simp only[List.cons.injEq,Value.int.injEq,true_and,and_true]at hv
 subst hv
 have nB:∀{k:Nat},k<w67.heap.size→NotIn k [w68.heap.size]:=fun hk=>nfr hk fun b hb=>by simp at hb;omega
 constructor
 ·intro hlt
  have em:64 - n=(64 - (n+1))+1:=by omega
  rw[em,List.replicate_succ]at hb70
  have ea:(⟨w68.heap.size,0,none⟩:Addr).add ((n:Int).toNat*1)=⟨w68.heap.size,n,none⟩:=by rw[add_lit];congr 1;omega
  rw[ea]
  have hst:=stA_block (off:=n) [Value.int .u8 7] 0 w70 _ hb70 (by simp)
  have hkp:=stA_kp w70 ⟨w68.heap.size,n,none⟩ [Value.int .u8 7]
  refine⟨by omega,by omega,⟨[_],ldA_blk hb70 n [Value.int .u8 0] (by simp),rfl⟩,notFrozen hb70,(by and_intros<;>exact nB (hM _ (by simp))),fun w71 hw71=>?_⟩
  subst hw71
  refine⟨ini_i64.2 (by omega),⟨n+1,rfl,by omega,hw70.more hkp fun x hx=>.inr (by simp at hx;omega),?_⟩,by dsimp only;omega⟩
  rw[hst,setL_midK n,List.replicate_succ',List.append_assoc]
  rfl
 intro hge
 have hn64:n=64:=by omega
 subst hn64
 refine⟨fun _=>?_,fun hc=>absurd rfl hc⟩
 have hsl:=pv_sliceArr (P:=Tryz.prog) (at_:=91) (te:=5) (sz:=1) (len:=64) Tryz.underlying91 elB33.size (ad:=⟨w68.heap.size,0,none⟩) (l:=0) (h:=64) (lo:=none) (hi:=none) (.inr ⟨rfl,rfl⟩) (.inr ⟨rfl,rfl⟩) (by omega) (by omega)
 refine⟨_,_,_,hsl,?_⟩
 have hD70:=hD.kp0 hw70
 have hsv:R (tSl (tI .u8)) (Fc++[]) w70 (List.replicate 64 7) [.slice (some ⟨w68.heap.size,0,none⟩) 64 64] :=
  R.ofBlk (bs:=List.replicate 64 7) (rest:=[]) (c:=64) (by rw[hb70];rfl) (fun hm=>by rw[List.append_nil]at hm;have:=(hD.own_lt _ hm).1;omega) (fun x hx=>by rw[List.eq_of_mem_replicate hx];exact ini_u8.2 (by omega)) (by decide) (by decide)
 have ew:(newDk 64).write 3 (List.replicate 64 7)=(0,(newDk 64).put 3 (List.replicate 64 7)):=rfl
 refine⟨(dWrite_ok hD70 (by show(0:Nat)≤_;omega) (i:=3) (by rw[show(newDk 64).now.length=4096 by unfold newDk;exact List.length_replicate ..];omega) hsv).mono ?_⟩
 rw[ew]
 rintro e w72 ⟨rfl,F2,hD2,hO2⟩
 have hF2:∀b∈F2,w67.heap.size≤b:=fun b hb=>(hO2.new b hb).elim (hF b) fun hge=>by have:=hw70.size;omega
 refine⟨_,rfl,Fc,hO2.kp,(by and_intros<;>exact nfr (hM _ (by simp)) hF),fun _=>?_,fun hc=>absurd rfl hc⟩
 intro k108 g108 w73 hw73 hkn
 have l108:=block_lt hkn
 have n108:k108∉F2:=fun hm=>by have:=(hD2.own_lt _ hm).1;omega
 have ec:((newDk 64).put 3 (List.replicate 64 7)).crash [200]=(0,((newDk 64).put 3 (List.replicate 64 7)).fall [200]):=rfl
 refine⟨(dCrash_ok (hD2.kp0 hw73) (by show(1:Nat)≤_;omega) (one_R (t:=tI .u8) (x:=(200:Int)) (M:=F2) hkn n108 ⟨rfl,ini_u8.2 (by omega)⟩)).mono ?_⟩
 rw[ec]
 rintro e w74 ⟨rfl,F3,hD3,hO3⟩
 have hF3:∀b∈F3,w67.heap.size≤b:=fun b hb=>(hO3.new b hb).elim (hF2 b) fun hge=>by have:=hw70.size;have:=hO2.kp.size;have:=hw73.size;omega
 have n108':k108∉F3:=fun hm=>(hO3.new _ hm).elim n108 fun hge=>by omega
 refine⟨_,rfl,F2,hO3.kp,(by and_intros<;>first|exact⟨n108⟩|exact nfr (hM _ (by simp)) hF2),fun _=>⟨(dRestart_ok hD3).mono ?_⟩,fun hc=>absurd rfl hc⟩
 rintro e w75 ⟨rfl,F4,hD4,hO4⟩
 refine⟨_,rfl,F3,hO4.kp,(by and_intros<;>first|exact⟨n108'⟩|exact nfr (hM _ (by simp)) hF3),fun hc=>absurd rfl hc,fun _=>⟨(dRead_ok hD4 (N:=[]) (by simp) 3).mono ?_⟩⟩
 rintro e w76 ⟨a46,m46,c46,rfl,hw76,hA⟩
 have hA:=hA rfl
 have L58:(secOf ((((newDk 64).put 3 (List.replicate 64 7)).fall [200]).restart).now (Int.toNat 3))[58]?=some 0:=by kernel_rfl
 have L59:(secOf ((((newDk 64).put 3 (List.replicate 64 7)).fall [200]).restart).now (Int.toNat 3))[59]?=some 7:=by kernel_rfl
 have L63:(secOf ((((newDk 64).put 3 (List.replicate 64 7)).fall [200]).restart).now (Int.toNat 3))[63]?=some 7:=by kernel_rfl
 have Ln:(secOf ((((newDk 64).put 3 (List.replicate 64 7)).fall [200]).restart).now (Int.toNat 3)).length=64:=by kernel_rfl
 have hmx:maxSl=140737488355328:=rfl
 have hm46:=hA.acc.len
 generalize secOf ((((newDk 64).put 3 (List.replicate 64 7)).fall [200]).restart).now (Int.toNat 3)=L at hA L58 L59 L63 Ln hm46
 have hR:=hA.acc.done (by omega)
 have rd:∀(j:Nat) (v:Int),L[j]?=some v→∃ad,a46=some ad∧LdA w76 (ad.add (j*1)) [.int .u8 v]:=fun j v hj=>by
  obtain⟨h1,h2⟩:=List.getElem?_eq_some_iff.1 hj
  obtain⟨ad,cs,rfl,hv1,hld,_,_⟩:=hR.sl_get h1
  obtain⟨rfl,_⟩:=hv1.intD
  rw[h2]at hld
  exact⟨ad,rfl,hld⟩
 obtain⟨ad,rfl,ld58⟩:=rd 58 0 L58
 obtain⟨ad',e59,ld59⟩:=rd 59 7 L59
 obtain⟨ad'',e63,ld63⟩:=rd 63 7 L63
 simp only[Option.some.injEq]at e59 e63
 subst e59 e63
 refine⟨_,_,_,_,rfl,hw76,fun _=>⟨fun _=>⟨ad,rfl,by omega,by omega,0,ld58,fun _=>⟨ad,rfl,by omega,by omega,7,ld59,fun _=>⟨ad,rfl,by omega,by omega,7,ld63,fun hc=>absurd rfl hc,fun _=>?_⟩,fun hc=>absurd rfl hc⟩,fun hc=>absurd rfl hc⟩,fun hc=>absurd (by omega) hc⟩,fun hc=>absurd rfl hc⟩
 have k76:KpL [] w w76:=(((((kw.trans hw68).trans hw70).more hO2.kp fun b hb=>.inr (Nat.le_trans kw.size (hF b hb))).trans hw73).more hO3.kp fun b hb=>.inr (Nat.le_trans kw.size (hF2 b hb))).more (hO4.kp) (fun b hb=>.inr (Nat.le_trans kw.size (hF3 b hb))) |>.trans hw76
 refine at0_ok (M:=[]) (by simp) (by decide) fun w77 a6 k9 k10 a7 k11 k12 hk hc=>bt1_ok (M:=[]) (by simp) hc fun k115 w79 g3 g4 hk2 hb=>⟨(putN_ok w79 _ _ _ _ _ _).mono ?_⟩
 rintro e w80 ⟨rfl,hw80⟩
 refine⟨_,_,rfl,[],hw80,(by and_intros<;>exact⟨by simp⟩),⟨(lexample_ok (M:=[]) (by simp)).mono ?_⟩⟩
 rintro e w81 ⟨a50,n50,c50,rfl,hw81,_⟩
 refine⟨_,_,_,rfl,hw81,⟨(fmtN_ok w81 _ _ _).mono ?_⟩⟩
 rintro e w82 ⟨rfl,hw82⟩
 refine⟨_,_,rfl,[],hw82,(by and_intros<;>exact⟨by simp⟩),fun k120 _ w83 hw83 hkn120=>⟨(open0_ok hkn120).mono ?_⟩⟩
 rintro e w84 ⟨rfl,hw84⟩
 refine⟨_,_,rfl,[],hw84,(by and_intros<;>exact⟨by simp⟩),fun _=>⟨fun _=>⟨fun _=>⟨(syncN_ok w84).mono ?_⟩,fun hc=>absurd rfl hc⟩,fun hc=>absurd rfl hc⟩,fun hc=>absurd rfl hc⟩
 rintro e w85 ⟨rfl,hw85⟩
 refine⟨_,rfl,[],hw85,(by and_intros<;>exact⟨by simp⟩),fun _=>⟨(downN_ok w85).mono ?_⟩,fun hc=>absurd rfl hc⟩
 rintro e w86 ⟨rfl,hw86⟩
 refine⟨_,rfl,hw86,fun _=>⟨(copyN_ok w86).mono ?_⟩,fun hc=>(by cases hc)⟩
 rintro e w87 ⟨rfl,hw87⟩
 refine⟨_,rfl,hw87,fun _=>⟨(lworks_ok w87).mono ?_⟩,fun hc=>absurd rfl hc⟩
 rintro e w88 ⟨rfl,hw88⟩
 exact⟨_,rfl,hw88,rfl,k76.trans ((((hk.trans hk2).trans (hw80.trans hw81)).trans ((hw82.trans hw83).trans hw84)).trans ((hw85.trans hw86).trans (hw87.trans hw88)))⟩
end Go.Vc
namespace Go.Proofs.YtlmpniofhabmiaaGreat.ingestKnown
open Go.ChangeShapes Go.WideShapes Go.ChangeAt Go.RowKit
theorem own:ownKnob Tryz.prog.godebug=none:=by kernel_rfl
theorem below{w w':World}(h:Go.Vc.KpL [] w w'):Below w.heap.size w w':=⟨h.os,h.tape,h.output,h.size,fun k hk=>h.blk k hk (by simp)⟩
set_option maxRecDepth 100000 in
theorem lifted(os:Os)(started:os.Started)(H:Type)(enc:TypeId×Value→H):
 ReturnsInHanded {} Tryz.checked os 5 .any (Rows.ingestKnownSpec.pre6 enc Tryz.prog Tryz.f5 Rows.ingestKnownRow.domain false) (Rows.ingestKnownSpec.post enc Tryz.prog Tryz.f5 false true false false):=by
 refine returnsInHanded_of_change_sized (C:=Tryz.checked) own started (by kernel_rfl) Tryz.func5
  (ChangeSpec.witness6 (enc:=enc) (C:=Tryz.checked) false ⟨#[],#[],[]⟩ 8 (by kernel_rfl) (by kernel_rfl) (by kernel_rfl) (by kernel_rfl)) ?_
 intro W base args ds gs before hval0 hW hcnd hsz _
 have hval:∀(j:Nat) t v,Tryz.f5.params[j]?=some t→args[j]?=some v→Value.okWide Tryz.prog W .any base t v:=hval0
 have hW':=hW
 obtain⟨p,q,hA0,hV,rfl,hfz,hnd⟩:=hW
 have hA:DataW.TrodAll enc Tryz.prog W 0 (fun _=>true) true Tryz.f5.params.toList args.toList ds p:=hA0
 rw[Tryz.params5]at hA hval hsz
 obtain⟨ha,rfl,rfl⟩:=trodAll_nil hA
 obtain rfl:args=#[]:=by cases args;simp_all
 obtain⟨rfl,rfl⟩:=trodVars_none hV
 clear hA0 hval0
 refine(Go.Vc.gKnown_ok W).mono fun e W' ⟨he,hk⟩=>?_
 subst he
 have bel:=below hk
 exact⟨_,rfl,_,_,_,[],_,[],hW',trodAll_mk1 (shut_bool Tryz.underlying4 _),trodAll_mk0,rfl,bel.frame _,fun h=>by cases h⟩
theorem over:Rows.ingestKnownRow.holds Tryz.pinned (OpenSpec.ofChange Rows.ingestKnownSpec) :=
 OpenClaim.holds_of_wide 5 Tryz.f5 rfl rfl rfl rfl rfl rfl rfl ⟨rfl,rfl,rfl,rfl,rfl⟩ rfl rfl rfl rfl rfl (by kernel_rfl) Tryz.func5 (by kernel_rfl)
  (of_decide_eq_true (by kernel_rfl)) (by unfold Func.isWrapper;rw[if_neg (of_decide_eq_false (by kernel_rfl))];exact⟨rfl,rfl⟩)
  (fun os started H enc _=>lifted os started H enc)
theorem proved:Rows.IngestKnownSaid:=over
#print axioms proved
end Go.Proofs.YtlmpniofhabmiaaGreat.ingestKnown
